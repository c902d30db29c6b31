/- The statement's proof, part 5: what its walks and its plain laws need. -/
import Derived.Test.YtgfnmolbagilmaaRows
import Derived.Tactics
import Derived.Deep.Quiet
import Derived.StillTail
import Derived.Laws.World
import Derived.Laws.Sem
import Derived.Laws.Entries
import Derived.Below
import Derived.Deep.LoopGhost
import Derived.Laws.BytesString
import Derived.Laws.IdiomStrings
import Derived.KernelRfl
import Derived.Carry
import Derived.OpenShut
import Derived.ProofKit
import Derived.ChangeSame
import Derived.HandedShaped
import Derived.SizedLaws
import Derived.Test.YtgfnmolbagilmaaProg
import Derived.Laws.Strings
import Derived.Test.YtgfnmolbagilmaaXc4
namespace Go.Proofs.Ytgfnmolbagilmaa
open Go Go.RowKit Fw
open Sha
open Ots
open Mk
set_option linter.unusedVariables false
set_option linter.unusedSimpArgs false
set_option maxRecDepth 20000 in
set_option maxHeartbeats 1000000 in
theorem rbad_any (b : Nat) (rv : Value) (bad : Bool) (w : World) (hb : w.heap[b]? = some (.cells (List.toArray [rv, .bool bad]) 139)) : Calls Try.prog 81 #[.pointer (some ⟨b, 0, none⟩)] w (Post (ι := Unit) w [b] (fun _ => True) (fun _ => .tuple #[]) (fun _ => [(0, .blk (b) (.cells ([Ky.nil0, .bool (true)]).toArray 139))])) := by
  refine calls_at (vs := [.pointer (some ⟨b, 0, none⟩)]) (X := [b]) (H := [(0, .blk (b) (.cells ([rv, .bool (bad)]).toArray 139))]) (F := []) 10 Try.func81 rfl rfl rfl (Sat.blkX 0 hb) ?_
  refine cd_seq ?_
  refine cd_region ?_
  refine st (ev_move rfl) rfl rfl rfl ?_
  refine st (ev_neq_ptr_nil Try.underlying107 rfl rfl) rfl rfl rfl ?_
  refine op_nil ?_
  refine ax_then ?_
  refine At.regs (L' := [(0, _), (3, _)]) (.cons rfl (.cons rfl (.nil _))) ?_
  refine cd_true rfl ?_
  refine cd_region ?_
  refine st (ev_move rfl) rfl rfl rfl ?_
  refine st (ev_move rfl) rfl rfl rfl ?_
  refine st (ev_nilCheck rfl) rfl rfl rfl ?_
  refine st (ev_fieldAddr (b := _) Try.underlying139 (f := _) rfl ty28 (by decide) rfl) rfl rfl rfl ?_
  refine st_store1 0 ty28 rfl rfl rfl rfl (show 0 < 2 from by decide) rfl ?_
  refine at_heq (i := 0) (v' := .blk (b) (.cells ([Ky.nil0, .bool (bad)]).toArray 139)) rfl rfl ?_
  refine st (ev_nilCheck rfl) rfl rfl rfl ?_
  refine st (ev_fieldAddr (b := _) Try.underlying139 (f := _) rfl ty4 (by decide) rfl) rfl rfl rfl ?_
  refine st_store1 0 ty4 rfl rfl rfl rfl (show 1 < 2 from by decide) rfl ?_
  refine at_heq (i := 0) (v' := .blk (b) (.cells ([Ky.nil0, .bool (true)]).toArray 139)) rfl rfl ?_
  refine op_nil ?_
  refine rt_none (.inr rfl) Try.results81 ?_
  exact fun w1 sw => ⟨(), trivial, rfl, sw.gives (N := [(0, _)]) (.cons rfl (.nil _))⟩
set_option maxRecDepth 20000 in
set_option maxHeartbeats 1000000 in
theorem rgood_any (b : Nat) (rv : Value) (bad : Bool) (w : World) (h : Lies w b 0 [rv, .bool bad]) : Calls Try.prog 82 #[.pointer (some ⟨b, 0, none⟩)] w (PostV w (.bool (!bad))) := by
  refine calls_at (vs := [.pointer (some ⟨b, 0, none⟩)]) (X := []) (H := []) (F := [(21, .mem b 0 [rv, .bool bad])]) 12 Try.func82 rfl rfl rfl ((Sat.start0 w).read 21 h off_nil) ?_
  refine cd_seq ?_
  refine cd_region ?_
  refine st (ev_assign rfl) rfl rfl rfl ?_
  refine op_nil ?_
  refine ax_then ?_
  refine At.regs (L' := [(0, _), (2, _)]) (.cons rfl (.cons rfl (.nil _))) ?_
  refine cd_seq ?_
  refine cd_region ?_
  refine st (ev_move rfl) rfl rfl rfl ?_
  refine st (ev_neq_ptr_nil Try.underlying107 rfl rfl) rfl rfl rfl ?_
  refine st (ev_move rfl) rfl rfl rfl ?_
  refine st (ev_move rfl) rfl rfl rfl ?_
  refine st (ev_nilCheck rfl) rfl rfl rfl ?_
  refine st (ev_fieldAddr (b := _) Try.underlying139 (f := _) rfl ty4 (by decide) rfl) rfl rfl rfl ?_
  refine st (ld_mem1 (h := 21) ty4 rfl rfl rfl (Nat.zero_add _).symm rfl) rfl rfl rfl ?_
  refine st (ev_not rfl) rfl rfl rfl ?_
  refine st (ev_pick_t rfl rfl) rfl rfl rfl ?_
  refine st (ev_assign rfl) rfl rfl rfl ?_
  refine op_nil ?_
  refine ax_then ?_
  refine At.regs (L' := [(2, _)]) (.cons rfl (.nil _)) ?_
  refine cd_ret ?_
  refine rt_tmp (.inl rfl) Try.results82 rfl ?_
  exact fun w1 sw => ⟨rfl, sw.gives (.nil _)⟩
set_option maxRecDepth 20000 in
set_option maxHeartbeats 1000000 in
theorem rwhole_any (b : Nat) (rv : Value) (bad : Bool) (r : List Int) (w : World) (h : Lies w b 0 [rv, .bool bad]) (h' : Rd w rv 1 (ints .u8 r)) : Calls Try.prog 52 #[.pointer (some ⟨b, 0, none⟩)] w (PostV w (.bool (!bad && decide (r.length = 0)))) := by
  refine calls_at (vs := [.pointer (some ⟨b, 0, none⟩)]) (X := []) (H := []) (F := [(21, .mem b 0 [rv, .bool bad]), (20, .sl (rv) 1 (ints .u8 (r)))]) 13 Try.func52 rfl rfl rfl ((Sat.rd0 20 h').read 21 h off_nil) ?_
  refine cd_seq ?_
  refine cd_region ?_
  refine st (ev_assign rfl) rfl rfl rfl ?_
  refine op_nil ?_
  refine ax_then ?_
  refine At.regs (L' := [(0, _), (2, _)]) (.cons rfl (.cons rfl (.nil _))) ?_
  refine cd_seq ?_
  refine cd_region ?_
  refine st (ev_move rfl) rfl rfl rfl ?_
  refine st_callv has82 rfl (fun w1 sw => rgood_any b rv bad w1 (sw.rd 21 _ rfl)) rfl rfl ?_
  refine st (ev_move rfl) rfl rfl rfl ?_
  refine at_split (i := 5) rfl (fun hg5 => ?_) (fun hg5 => ?_)
  ·
    refine st (ev_move rfl) rfl rfl rfl ?_
    refine st (ev_nilCheck rfl) rfl rfl rfl ?_
    refine st (ev_fieldAddr (b := _) Try.underlying139 (f := _) rfl ty28 (by decide) rfl) rfl rfl rfl ?_
    refine st (ld_mem1 (h := 21) ty28 rfl rfl rfl (Nat.zero_add _).symm rfl) rfl rfl rfl ?_
    refine st (ev_len_rdi (h := 20) Try.underlying28 rfl rfl) rfl rfl rfl ?_
    refine st (ev_eql rfl rfl) rfl rfl rfl ?_
    refine st (ev_pick_t rfl rfl) rfl rfl rfl ?_
    refine st (ev_assign rfl) rfl rfl rfl ?_
    refine op_nil ?_
    refine ax_then ?_
    refine At.regs (L' := [(2, _)]) (.cons rfl (.nil _)) ?_
    refine cd_ret ?_
    refine rt_tmp (.inl rfl) Try.results52 rfl ?_
    exact fun w1 sw => ⟨congrArg (fun b => Ending.returned (Value.bool b)) (by rw [hg5]; first | rfl | (rw [Bool.true_and]; exact decide_eq_decide.2 (by omega))), sw.gives (.nil _)⟩
  ·
    refine st_skip rfl rfl rfl ?_
    refine st_skip rfl rfl rfl ?_
    refine st_skip rfl rfl rfl ?_
    refine st_skip rfl rfl rfl ?_
    refine st_skip rfl rfl rfl ?_
    refine st_skip rfl rfl rfl ?_
    refine st (ev_pick_f rfl rfl) rfl rfl rfl ?_
    refine st (ev_assign rfl) rfl rfl rfl ?_
    refine op_nil ?_
    refine ax_then ?_
    refine At.regs (L' := [(2, _)]) (.cons rfl (.nil _)) ?_
    refine cd_ret ?_
    refine rt_tmp (.inl rfl) Try.results52 rfl ?_
    exact fun w1 sw => ⟨congrArg (fun b => Ending.returned (Value.bool b)) (by rw [hg5]; first | rfl | (rw [Bool.true_and]; exact decide_eq_decide.2 (by omega))), sw.gives (.nil _)⟩
set_option maxRecDepth 20000 in
set_option maxHeartbeats 1000000 in
theorem newreader_any (p : Value) (l : List Int) (w : World) (hl : l.length ≤ 140737488352000) (h : Rd w p 1 (ints .u8 l)) : Calls Try.prog 50 #[p] w (Post (ι := Nat × Value) w [] (fun _ => True) (fun x => .pointer (some ⟨x.1, 0, none⟩)) (fun x => [(0, .blk (x.1) (.cells ([x.2, .bool false]).toArray 139)), (1, .own (x.2) 5 1 (ints .u8 (l)))])) := by
  refine calls_at (vs := [p]) (X := []) (H := []) (F := [(0, .sl (p) 1 (ints .u8 (l)))]) 7 Try.func50 rfl rfl rfl (Sat.rd0 0 h) ?_
  refine cd_seq ?_
  refine cd_region ?_
  refine st (ev_assign rfl) rfl rfl rfl ?_
  refine op_nil ?_
  refine ax_then ?_
  refine At.regs (L' := [(0, _), (2, _)]) (.cons rfl (.cons rfl (.nil _))) ?_
  refine cd_seq ?_
  refine cd_region ?_
  refine st (ev_move rfl) rfl rfl rfl ?_
  refine st_call has80 rfl (fun w1 sw => rn 4 (clone_any p l w1 hl (sw.sl_rd (h := 0) rfl))) nil_all rfl rfl (fun v4 _ => ?_)
  refine at_own_shape (h := 4) rfl (fun hs4 => ?_)
  refine st (ev_build_struct ty139 rfl pl139 rfl ((fill_put (i := 0) (off := 0) (n := 1) (vs := [v4]) rfl hs4.1 rfl (Nat.le_of_ble_eq_true rfl)).trans fill_nil)) rfl rfl rfl ?_
  refine at_eq (i := 5) (v' := .agg (List.toArray [v4, .bool false])) rfl rfl ?_
  refine st_box (h := 6) rfl rfl rfl rfl (fun b6 => ?_)
  refine st (ev_assign rfl) rfl rfl rfl ?_
  refine op_nil ?_
  refine ax_then ?_
  refine At.regs (L' := [(2, _)]) (.cons rfl (.nil _)) ?_
  refine cd_ret ?_
  refine rt_tmp (.inl rfl) Try.results50 rfl ?_
  exact fun w1 sw => ⟨(b6, v4), trivial, rfl, (sw.gives (N := [(6, _), (4, _)]) (.cons rfl (.cons rfl (.nil _)))).rn2 (by decide) 0 1⟩
end Go.Proofs.Ytgfnmolbagilmaa

namespace Go.Proofs.Ytgfnmolbagilmaa
open Go Go.RowKit Fw
open Sha
open Ots
open Mk
set_option linter.unusedVariables false
set_option linter.unusedSimpArgs false
set_option maxRecDepth 20000 in
set_option maxHeartbeats 4000000 in
theorem rnum_g (b : Nat) (rv : Value) (bad : Bool) (r : List Int) (w : World) (hb : w.heap[b]? = some (.cells (List.toArray [rv, .bool bad]) 139)) (h : Rd w rv 1 (ints .u8 r)) (ho : FE.off b (.sl rv 1 (ints .u8 r))) (hr : r.length ≤ 140737488352000) : Calls Try.prog 51 #[.pointer (some ⟨b, 0, none⟩)] w (Post (ι := Value) w [b] (fun x => Rr.Und rv r x (Rr.nRest r)) (fun _ => .int .i64 (Rr.nVal r)) (fun x => [(0, .blk (b) (.cells ([x, .bool (bad || Rr.nBad r)]).toArray 139))])) := by
  refine calls_at (vs := [.pointer (some ⟨b, 0, none⟩)]) (X := [b]) (H := [(0, .blk (b) (.cells ([rv, .bool (bad)]).toArray 139))]) (F := [(1, .sl rv 1 (ints .u8 r))]) 55 Try.func51 rfl rfl rfl ((Sat.blkX 0 hb).readb (f := .sl rv 1 (ints .u8 r)) 1 h ho) ?_
  refine cd_seq ?_
  refine cd_region ?_
  refine st (ev_assign rfl) rfl rfl rfl ?_
  refine op_nil ?_
  refine ax_then ?_
  refine At.regs (L' := [(0, _), (2, _)]) (.cons rfl (.cons rfl (.nil _))) ?_
  refine cd_seq ?_
  refine cd_seq ?_
  refine cd_region ?_
  refine st (ev_move rfl) rfl rfl rfl ?_
  refine st (ev_eql_ptr_nil Try.underlying107 rfl rfl) rfl rfl rfl ?_
  refine op_nil ?_
  refine ax_then ?_
  refine At.regs (L' := [(0, _), (2, _), (7, _)]) (.cons rfl (.cons rfl (.cons rfl (.nil _)))) ?_
  refine cd_false rfl ?_
  refine cd_skip ?_
  refine ax_then ?_
  refine At.regs (L' := [(0, _), (2, _)]) (.cons rfl (.cons rfl (.nil _))) ?_
  refine cd_seq ?_
  refine cd_region ?_
  refine st (ev_assign rfl) rfl rfl rfl ?_
  refine op_nil ?_
  refine ax_then ?_
  refine At.regs (L' := [(0, _), (2, _), (3, _)]) (.cons rfl (.cons rfl (.cons rfl (.nil _)))) ?_
  refine cd_seq ?_
  refine cd_seq ?_
  refine cd_region ?_
  refine st (ev_move rfl) rfl rfl rfl ?_
  refine st (ev_nilCheck rfl) rfl rfl rfl ?_
  refine st (ev_fieldAddr (b := _) Try.underlying139 (f := _) rfl ty28 (by decide) rfl) rfl rfl rfl ?_
  refine st (ld_blk1 (h := 0) ty28 rfl rfl rfl rfl) rfl rfl rfl ?_
  refine st (ev_len_rdi (h := 1) Try.underlying28 rfl rfl) rfl rfl rfl ?_
  refine st (ev_move rfl) rfl rfl rfl ?_
  refine op_nil ?_
  refine ax_then ?_
  refine At.regs (L' := [(0, _), (2, _), (3, _), (11, _), (12, _), (13, _)]) (.cons rfl (.cons rfl (.cons rfl (.cons rfl (.cons rfl (.cons rfl (.nil _))))))) ?_
  refine cd_block ?_
  refine cd_loop (ι := Nat × Int) (fun x => x.1 ≤ r.length ∧ Rr.numG x.1 x.2 (r.drop x.1) = Rr.numS r) (fun x => r.length - x.1)
      (fun x => [(0, .pointer (some ⟨b, 0, none⟩)), (3, .int .u64 x.2), (11, rv), (12, .int .i64 (r.length : Nat)), (13, .int .i64 (x.1 : Int))])
      (fun x => [(0, .blk (b) (.cells ([rv, .bool (bad)]).toArray 139))])
      (fun x => [(1, .sl rv 1 (ints .u8 r))])
      (0, 0) (⟨by omega, by rw [List.drop_zero]; rfl⟩) (.cons rfl (.cons rfl (.cons rfl (.cons rfl (.cons rfl (.nil _)))))) (.cons rfl (.nil _)) (.cons rfl (.nil _)) (fun x hi => ?_)
  obtain ⟨i, u⟩ := x
  dsimp only at hi ⊢
  have hi1 := hi.1
  refine cd_seq ?_
  refine cd_region ?_
  refine st (ev_lss rfl rfl) rfl rfl rfl ?_
  refine op_nil ?_
  refine ax_then ?_
  refine At.regs (L' := [(0, _), (3, _), (11, _), (12, _), (13, _), (14, _)]) (.cons rfl (.cons rfl (.cons rfl (.cons rfl (.cons rfl (.cons rfl (.nil _))))))) ?_
  refine cd_seq ?_
  refine cd_if rfl (fun hc14 => ?_) (fun hc14 => ?_)
  ·
    have hlt : i < r.length := by omega
    have hd0 := Rr.drop_head hlt
    obtain ⟨c, hc⟩ : ∃ c, c = r.getD i 0 := ⟨_, rfl⟩
    have hd : r.drop i = c :: r.drop (i + 1) := by rw [hc]; exact hd0
    refine cd_skip ?_
    refine ax_then ?_
    refine At.regs (L' := [(0, _), (3, _), (11, _), (12, _), (13, _), (14, _)]) (.cons rfl (.cons rfl (.cons rfl (.cons rfl (.cons rfl (.cons rfl (.nil _))))))) ?_
    refine cd_seq ?_
    refine cd_block ?_
    refine cd_seq ?_
    refine cd_region ?_
    refine st (ev_move rfl) rfl rfl rfl ?_
    refine st (ev_indexAddr_rdi (h := 1) Try.underlying28 ty5 rfl rfl rfl (by omega) (by first | omega | (simp only [List.length_append, List.length_cons, List.length_nil, List.length_set, List.length_replicate, List.length_take, List.length_drop, ints_length, wr_length, sha_len, node_len, recov_len, Ky.named_len, Ky.keyPub_len, Ky.hashOf_len] <;> omega))) rfl rfl rfl ?_
    refine st (ld_rd1 (h := 1) ty5 rfl rfl rfl (ints_get _ _ _ (by first | omega | (simp only [List.length_append, List.length_cons, List.length_nil, List.length_set, List.length_replicate, List.length_take, List.length_drop, ints_length, wr_length, sha_len, node_len, recov_len, Ky.named_len, Ky.keyPub_len, Ky.hashOf_len] <;> omega) | rfl))) rfl rfl rfl ?_
    refine at_eq (i := 17) (v' := .int .u8 c) rfl (by rw [hc, Int.toNat_natCast]) ?_
    refine st (ev_assign rfl) rfl rfl rfl ?_
    refine st (ev_assign rfl) rfl rfl rfl ?_
    refine op_nil ?_
    refine ax_then ?_
    refine At.regs (L' := [(0, _), (3, _), (4, _), (5, _), (11, _), (12, _), (13, _), (14, _), (15, _), (16, _), (17, _)]) (.cons rfl (.cons rfl (.cons rfl (.cons rfl (.cons rfl (.cons rfl (.cons rfl (.cons rfl (.cons rfl (.cons rfl (.cons rfl (.nil _)))))))))))) ?_
    refine cd_seq ?_
    refine cd_seq ?_
    refine cd_region ?_
    refine st (ev_move rfl) rfl rfl rfl ?_
    refine st (ev_geq rfl rfl) rfl rfl rfl ?_
    refine st (ev_move rfl) rfl rfl rfl ?_
    refine at_split_if (i := 20) rfl (fun hg20 => ?_) (fun hg20 => ?_)
    ·
      refine st_skip rfl rfl rfl ?_
      refine st_skip rfl rfl rfl ?_
      refine st_skip rfl rfl rfl ?_
      refine st_skip rfl rfl rfl ?_
      refine st_skip rfl rfl rfl ?_
      refine st_skip rfl rfl rfl ?_
      refine st (ev_pick_t rfl rfl) rfl rfl rfl ?_
      refine op_nil ?_
      refine ax_then ?_
      refine At.regs (L' := [(0, _), (3, _), (4, _), (5, _), (11, _), (12, _), (13, _), (14, _), (15, _), (16, _), (17, _), (18, _), (19, _), (20, _), (21, _), (22, _), (23, _), (24, _), (25, _), (26, _), (27, _)]) (.cons rfl (.cons rfl (.cons rfl (.cons rfl (.cons rfl (.cons rfl (.cons rfl (.cons rfl (.cons rfl (.cons rfl (.cons rfl (.cons rfl (.cons rfl (.cons rfl (.cons rfl (.cons rfl (.cons rfl (.cons rfl (.cons rfl (.cons rfl (.cons rfl (.nil _)))))))))))))))))))))) ?_
      refine cd_true rfl ?_
      refine cd_exit ?_
      refine ax_then_exit ?_
      refine ax_block_miss (by decide) ?_
      refine ax_then_exit ?_
      refine ax_then_exit ?_
      refine ax_block_hit ?_
      refine ax_then ?_
      refine At.regs (L' := [(0, _)]) (.cons rfl (.nil _)) ?_
      refine cd_seq ?_
      refine cd_region ?_
      refine st (ev_move rfl) rfl rfl rfl ?_
      refine st_call has81 rfl (fun w1 sw => rbad_any b rv bad w1 (sw.blk_eq (h := 0) rfl)) (mod_blk rfl) rfl rfl (fun _ _ => ?_)
      refine op_nil ?_
      refine ax_then ?_
      refine At.regs (L' := []) (.nil _) ?_
      refine cd_seq ?_
      refine cd_region ?_
      refine st (ev_assign rfl) rfl rfl rfl ?_
      refine op_nil ?_
      refine ax_then ?_
      refine At.regs (L' := [(2, _)]) (.cons rfl (.nil _)) ?_
      refine cd_ret ?_
      refine rt_tmp (.inl rfl) Try.results51 rfl ?_
      first
      | (exact fun w1 sw => ⟨cutAt 1 rv (i + 1) r.length, Rr.nUnd_ok rv hs, by rw [(Rr.nVal_ok hs).1], by rw [(Rr.nVal_ok hs).2.1, Bool.or_false]; exact sw.gives (N := [(0, _)]) (.cons rfl (.nil _))⟩)
      | (have hnone : Rr.numS r = none := by
           rw [← hi.2]
           first
           | (rw [show i = r.length by omega, List.drop_length]; rfl)
           | (rw [hd]; first | exact Rr.numG_brk (by omega) | exact Rr.numG_big (by omega) (by omega))
         exact fun w1 sw => ⟨Ky.nil0, Rr.nUnd_no rv hnone, by rw [(Rr.nVal_no hnone).1], by rw [(Rr.nVal_no hnone).2.1, Bool.or_true]; exact sw.gives (N := [(0, _)]) (.cons rfl (.nil _))⟩)
    ·
      refine st (ev_move rfl) rfl rfl rfl ?_
      refine st (ev_gtr rfl rfl) rfl rfl rfl ?_
      refine st (ev_move rfl) rfl rfl rfl ?_
      refine at_split_if (i := 23) rfl (fun hg23 => ?_) (fun hg23 => ?_)
      ·
        refine st (ev_move rfl) rfl rfl rfl ?_
        refine st (ev_eql rfl rfl) rfl rfl rfl ?_
        refine st (ev_pick_t rfl rfl) rfl rfl rfl ?_
        refine st (ev_pick_f rfl rfl) rfl rfl rfl ?_
        refine op_nil ?_
        refine ax_then ?_
        refine At.regs (L' := [(0, _), (3, _), (4, _), (5, _), (11, _), (12, _), (13, _), (14, _), (15, _), (16, _), (17, _), (18, _), (19, _), (20, _), (21, _), (22, _), (23, _), (24, _), (25, _), (26, _), (27, _)]) (.cons rfl (.cons rfl (.cons rfl (.cons rfl (.cons rfl (.cons rfl (.cons rfl (.cons rfl (.cons rfl (.cons rfl (.cons rfl (.cons rfl (.cons rfl (.cons rfl (.cons rfl (.cons rfl (.cons rfl (.cons rfl (.cons rfl (.cons rfl (.cons rfl (.nil _)))))))))))))))))))))) ?_
        refine cd_if rfl (fun hc27 => ?_) (fun hc27 => ?_)
        ·
          refine cd_exit ?_
          refine ax_then_exit ?_
          refine ax_block_miss (by decide) ?_
          refine ax_then_exit ?_
          refine ax_then_exit ?_
          refine ax_block_hit ?_
          refine ax_then ?_
          refine At.regs (L' := [(0, _)]) (.cons rfl (.nil _)) ?_
          refine cd_seq ?_
          refine cd_region ?_
          refine st (ev_move rfl) rfl rfl rfl ?_
          refine st_call has81 rfl (fun w1 sw => rbad_any b rv bad w1 (sw.blk_eq (h := 0) rfl)) (mod_blk rfl) rfl rfl (fun _ _ => ?_)
          refine op_nil ?_
          refine ax_then ?_
          refine At.regs (L' := []) (.nil _) ?_
          refine cd_seq ?_
          refine cd_region ?_
          refine st (ev_assign rfl) rfl rfl rfl ?_
          refine op_nil ?_
          refine ax_then ?_
          refine At.regs (L' := [(2, _)]) (.cons rfl (.nil _)) ?_
          refine cd_ret ?_
          refine rt_tmp (.inl rfl) Try.results51 rfl ?_
          first
          | (exact fun w1 sw => ⟨cutAt 1 rv (i + 1) r.length, Rr.nUnd_ok rv hs, by rw [(Rr.nVal_ok hs).1], by rw [(Rr.nVal_ok hs).2.1, Bool.or_false]; exact sw.gives (N := [(0, _)]) (.cons rfl (.nil _))⟩)
          | (have hnone : Rr.numS r = none := by
               rw [← hi.2]
               first
               | (rw [show i = r.length by omega, List.drop_length]; rfl)
               | (rw [hd]; first | exact Rr.numG_brk (by omega) | exact Rr.numG_big (by omega) (by omega))
             exact fun w1 sw => ⟨Ky.nil0, Rr.nUnd_no rv hnone, by rw [(Rr.nVal_no hnone).1], by rw [(Rr.nVal_no hnone).2.1, Bool.or_true]; exact sw.gives (N := [(0, _)]) (.cons rfl (.nil _))⟩)
        ·
          refine cd_skip ?_
          refine ax_then ?_
          refine At.regs (L' := [(0, _), (3, _), (4, _), (5, _), (11, _), (12, _), (13, _), (14, _), (15, _), (16, _), (17, _), (18, _), (19, _), (20, _), (21, _), (22, _), (23, _), (24, _), (25, _), (26, _), (27, _)]) (.cons rfl (.cons rfl (.cons rfl (.cons rfl (.cons rfl (.cons rfl (.cons rfl (.cons rfl (.cons rfl (.cons rfl (.cons rfl (.cons rfl (.cons rfl (.cons rfl (.cons rfl (.cons rfl (.cons rfl (.cons rfl (.cons rfl (.cons rfl (.cons rfl (.nil _)))))))))))))))))))))) ?_
          refine cd_seq ?_
          refine cd_region ?_
          refine st (ev_move rfl) rfl rfl rfl ?_
          have hnb : ¬ (i ≥ 9 ∨ (i > 0 ∧ c = 0)) := by omega
          refine st (ev_move rfl) rfl rfl rfl ?_
          refine st (ev_and rfl rfl) rfl rfl rfl ?_
          refine st (ev_conv Try.underlying5 Try.underlying135 rfl) rfl rfl rfl ?_
          refine st (ev_move rfl) rfl rfl rfl ?_
          refine st (ev_mul64 rfl rfl (by omega) (by omega)) rfl rfl rfl ?_
          refine st (ev_shl rfl rfl (by omega)) rfl rfl rfl ?_
          refine st (ev_or rfl rfl) rfl rfl rfl ?_
          refine at_eq (i := 35) (v' := .int .u64 (Rr.acc u c i)) rfl rfl ?_
          refine st (ev_assign rfl) rfl rfl rfl ?_
          refine op_nil ?_
          refine ax_then ?_
          refine At.regs (L' := [(0, _), (3, _), (4, _), (5, _), (11, _), (12, _), (13, _), (14, _), (15, _), (16, _), (17, _), (18, _), (19, _), (20, _), (21, _), (22, _), (23, _), (24, _), (25, _), (26, _), (27, _), (28, _), (29, _), (30, _), (31, _), (32, _), (33, _), (34, _), (35, _)]) (.cons rfl (.cons rfl (.cons rfl (.cons rfl (.cons rfl (.cons rfl (.cons rfl (.cons rfl (.cons rfl (.cons rfl (.cons rfl (.cons rfl (.cons rfl (.cons rfl (.cons rfl (.cons rfl (.cons rfl (.cons rfl (.cons rfl (.cons rfl (.cons rfl (.cons rfl (.cons rfl (.cons rfl (.cons rfl (.cons rfl (.cons rfl (.cons rfl (.cons rfl (.nil _)))))))))))))))))))))))))))))) ?_
          refine cd_seq ?_
          refine cd_region ?_
          refine st (ev_move rfl) rfl rfl rfl ?_
          refine st (ev_lss rfl rfl) rfl rfl rfl ?_
          refine op_nil ?_
          refine ax_then ?_
          refine At.regs (L' := [(0, _), (3, _), (4, _), (5, _), (11, _), (12, _), (13, _), (14, _), (15, _), (16, _), (17, _), (18, _), (19, _), (20, _), (21, _), (22, _), (23, _), (24, _), (25, _), (26, _), (27, _), (28, _), (29, _), (30, _), (31, _), (32, _), (33, _), (34, _), (35, _), (36, _), (37, _)]) (.cons rfl (.cons rfl (.cons rfl (.cons rfl (.cons rfl (.cons rfl (.cons rfl (.cons rfl (.cons rfl (.cons rfl (.cons rfl (.cons rfl (.cons rfl (.cons rfl (.cons rfl (.cons rfl (.cons rfl (.cons rfl (.cons rfl (.cons rfl (.cons rfl (.cons rfl (.cons rfl (.cons rfl (.cons rfl (.cons rfl (.cons rfl (.cons rfl (.cons rfl (.cons rfl (.cons rfl (.nil _)))))))))))))))))))))))))))))))) ?_
          refine cd_if rfl (fun hc37 => ?_) (fun hc37 => ?_)
          ·
            refine cd_seq ?_
            refine cd_seq ?_
            refine cd_region ?_
            refine st (ev_move rfl) rfl rfl rfl ?_
            refine st (ev_gtr rfl rfl) rfl rfl rfl ?_
            refine op_nil ?_
            refine ax_then ?_
            refine At.regs (L' := [(0, _), (3, _), (4, _), (5, _), (11, _), (12, _), (13, _), (14, _), (15, _), (16, _), (17, _), (18, _), (19, _), (20, _), (21, _), (22, _), (23, _), (24, _), (25, _), (26, _), (27, _), (28, _), (29, _), (30, _), (31, _), (32, _), (33, _), (34, _), (35, _), (36, _), (37, _), (38, _), (39, _)]) (.cons rfl (.cons rfl (.cons rfl (.cons rfl (.cons rfl (.cons rfl (.cons rfl (.cons rfl (.cons rfl (.cons rfl (.cons rfl (.cons rfl (.cons rfl (.cons rfl (.cons rfl (.cons rfl (.cons rfl (.cons rfl (.cons rfl (.cons rfl (.cons rfl (.cons rfl (.cons rfl (.cons rfl (.cons rfl (.cons rfl (.cons rfl (.cons rfl (.cons rfl (.cons rfl (.cons rfl (.cons rfl (.cons rfl (.nil _)))))))))))))))))))))))))))))))))) ?_
            refine cd_if rfl (fun hc39 => ?_) (fun hc39 => ?_)
            ·
              refine cd_exit ?_
              refine ax_then_exit ?_
              refine ax_block_miss (by decide) ?_
              refine ax_then_exit ?_
              refine ax_then_exit ?_
              refine ax_block_hit ?_
              refine ax_then ?_
              refine At.regs (L' := [(0, _)]) (.cons rfl (.nil _)) ?_
              refine cd_seq ?_
              refine cd_region ?_
              refine st (ev_move rfl) rfl rfl rfl ?_
              refine st_call has81 rfl (fun w1 sw => rbad_any b rv bad w1 (sw.blk_eq (h := 0) rfl)) (mod_blk rfl) rfl rfl (fun _ _ => ?_)
              refine op_nil ?_
              refine ax_then ?_
              refine At.regs (L' := []) (.nil _) ?_
              refine cd_seq ?_
              refine cd_region ?_
              refine st (ev_assign rfl) rfl rfl rfl ?_
              refine op_nil ?_
              refine ax_then ?_
              refine At.regs (L' := [(2, _)]) (.cons rfl (.nil _)) ?_
              refine cd_ret ?_
              refine rt_tmp (.inl rfl) Try.results51 rfl ?_
              first
              | (exact fun w1 sw => ⟨cutAt 1 rv (i + 1) r.length, Rr.nUnd_ok rv hs, by rw [(Rr.nVal_ok hs).1], by rw [(Rr.nVal_ok hs).2.1, Bool.or_false]; exact sw.gives (N := [(0, _)]) (.cons rfl (.nil _))⟩)
              | (have hnone : Rr.numS r = none := by
                   rw [← hi.2]
                   first
                   | (rw [show i = r.length by omega, List.drop_length]; rfl)
                   | (rw [hd]; first | exact Rr.numG_brk (by omega) | exact Rr.numG_big (by omega) (by omega))
                 exact fun w1 sw => ⟨Ky.nil0, Rr.nUnd_no rv hnone, by rw [(Rr.nVal_no hnone).1], by rw [(Rr.nVal_no hnone).2.1, Bool.or_true]; exact sw.gives (N := [(0, _)]) (.cons rfl (.nil _))⟩)
            ·
              refine cd_skip ?_
              refine ax_then ?_
              refine At.regs (L' := [(0, _), (3, _), (4, _), (5, _), (11, _), (12, _), (13, _), (14, _), (15, _), (16, _), (17, _), (18, _), (19, _), (20, _), (21, _), (22, _), (23, _), (24, _), (25, _), (26, _), (27, _), (28, _), (29, _), (30, _), (31, _), (32, _), (33, _), (34, _), (35, _), (36, _), (37, _), (38, _), (39, _)]) (.cons rfl (.cons rfl (.cons rfl (.cons rfl (.cons rfl (.cons rfl (.cons rfl (.cons rfl (.cons rfl (.cons rfl (.cons rfl (.cons rfl (.cons rfl (.cons rfl (.cons rfl (.cons rfl (.cons rfl (.cons rfl (.cons rfl (.cons rfl (.cons rfl (.cons rfl (.cons rfl (.cons rfl (.cons rfl (.cons rfl (.cons rfl (.cons rfl (.cons rfl (.cons rfl (.cons rfl (.cons rfl (.cons rfl (.nil _)))))))))))))))))))))))))))))))))) ?_
              refine cd_seq ?_
              refine cd_region ?_
              refine st (ev_move rfl) rfl rfl rfl ?_
              have hs : Rr.numS r = some (Rr.acc u c i, i + 1) := by rw [← hi.2, hd]; exact Rr.numG_ok hnb (by omega) hc39
              have hap := Rr.acc_pos u c i
              have hrng := Rr.numS_spec hs
              refine st (ev_move rfl) rfl rfl rfl ?_
              refine st (ev_nilCheck rfl) rfl rfl rfl ?_
              refine st (ev_fieldAddr (b := _) Try.underlying139 (f := _) rfl ty28 (by decide) rfl) rfl rfl rfl ?_
              refine st (ld_blk1 (h := 0) ty28 rfl rfl rfl rfl) rfl rfl rfl ?_
              refine st (ev_move rfl) rfl rfl rfl ?_
              refine st (ev_add64 rfl rfl (by omega) (by omega)) rfl rfl rfl ?_
              refine st (ev_slicei_lo Try.underlying28 ty5 rfl rfl (fun w1 sw => sw.sl_rd (h := 1) rfl) (by omega) (by first | omega | (simp only [List.length_append, List.length_cons, List.length_nil, List.length_set, List.length_replicate, List.length_take, List.length_drop, ints_length, wr_length, sha_len, node_len, recov_len, Ky.named_len, Ky.keyPub_len, Ky.hashOf_len] <;> omega))) rfl rfl rfl ?_
              refine at_eq (i := 47) (v' := cutAt 1 rv (i + 1) r.length) rfl rfl ?_
              refine st (ev_nilCheck rfl) rfl rfl rfl ?_
              refine st (ev_fieldAddr (b := _) Try.underlying139 (f := _) rfl ty28 (by decide) rfl) rfl rfl rfl ?_
              refine st_store1 0 ty28 rfl rfl rfl (rd_shape (h.cuti (lo := i + 1) (hi := r.length) (by omega) (Nat.le_refl _))).2 (show 0 < 2 from by decide) rfl ?_
              refine at_heq (i := 0) (v' := .blk (b) (.cells ([cutAt 1 rv (i + 1) r.length, .bool (bad)]).toArray 139)) rfl rfl ?_
              refine op_nil ?_
              refine ax_then ?_
              refine At.regs (L' := [(0, _), (3, _), (4, _), (5, _), (11, _), (12, _), (13, _), (14, _), (15, _), (16, _), (17, _), (18, _), (19, _), (20, _), (21, _), (22, _), (23, _), (24, _), (25, _), (26, _), (27, _), (28, _), (29, _), (30, _), (31, _), (32, _), (33, _), (34, _), (35, _), (36, _), (37, _), (38, _), (39, _), (40, _), (41, _), (42, _), (43, _), (44, _), (45, _), (46, _), (47, _), (48, _), (49, _)]) (.cons rfl (.cons rfl (.cons rfl (.cons rfl (.cons rfl (.cons rfl (.cons rfl (.cons rfl (.cons rfl (.cons rfl (.cons rfl (.cons rfl (.cons rfl (.cons rfl (.cons rfl (.cons rfl (.cons rfl (.cons rfl (.cons rfl (.cons rfl (.cons rfl (.cons rfl (.cons rfl (.cons rfl (.cons rfl (.cons rfl (.cons rfl (.cons rfl (.cons rfl (.cons rfl (.cons rfl (.cons rfl (.cons rfl (.cons rfl (.cons rfl (.cons rfl (.cons rfl (.cons rfl (.cons rfl (.cons rfl (.cons rfl (.cons rfl (.cons rfl (.nil _)))))))))))))))))))))))))))))))))))))))))))) ?_
              refine cd_seq ?_
              refine cd_region ?_
              refine st (ev_move rfl) rfl rfl rfl ?_
              refine st (ev_conv64 Try.underlying135 Try.underlying3 rfl (by omega) (by omega)) rfl rfl rfl ?_
              refine st (ev_assign rfl) rfl rfl rfl ?_
              refine op_nil ?_
              refine ax_then ?_
              refine At.regs (L' := [(0, _), (2, _), (3, _), (4, _), (5, _), (11, _), (12, _), (13, _), (14, _), (15, _), (16, _), (17, _), (18, _), (19, _), (20, _), (21, _), (22, _), (23, _), (24, _), (25, _), (26, _), (27, _), (28, _), (29, _), (30, _), (31, _), (32, _), (33, _), (34, _), (35, _), (36, _), (37, _), (38, _), (39, _), (40, _), (41, _), (42, _), (43, _), (44, _), (45, _), (46, _), (47, _), (48, _), (49, _), (50, _), (51, _)]) (.cons rfl (.cons rfl (.cons rfl (.cons rfl (.cons rfl (.cons rfl (.cons rfl (.cons rfl (.cons rfl (.cons rfl (.cons rfl (.cons rfl (.cons rfl (.cons rfl (.cons rfl (.cons rfl (.cons rfl (.cons rfl (.cons rfl (.cons rfl (.cons rfl (.cons rfl (.cons rfl (.cons rfl (.cons rfl (.cons rfl (.cons rfl (.cons rfl (.cons rfl (.cons rfl (.cons rfl (.cons rfl (.cons rfl (.cons rfl (.cons rfl (.cons rfl (.cons rfl (.cons rfl (.cons rfl (.cons rfl (.cons rfl (.cons rfl (.cons rfl (.cons rfl (.cons rfl (.cons rfl (.nil _))))))))))))))))))))))))))))))))))))))))))))))) ?_
              refine cd_ret ?_
              refine ax_block_ret ?_
              refine ax_then_ret ?_
              refine ax_then_ret ?_
              refine ax_block_ret ?_
              refine ax_then_ret ?_
              refine rt_tmp (.inl rfl) Try.results51 rfl ?_
              first
              | (exact fun w1 sw => ⟨cutAt 1 rv (i + 1) r.length, Rr.nUnd_ok rv hs, by rw [(Rr.nVal_ok hs).1], by rw [(Rr.nVal_ok hs).2.1, Bool.or_false]; exact sw.gives (N := [(0, _)]) (.cons rfl (.nil _))⟩)
              | (have hnone : Rr.numS r = none := by
                   rw [← hi.2]
                   first
                   | (rw [show i = r.length by omega, List.drop_length]; rfl)
                   | (rw [hd]; first | exact Rr.numG_brk (by omega) | exact Rr.numG_big (by omega) (by omega))
                 exact fun w1 sw => ⟨Ky.nil0, Rr.nUnd_no rv hnone, by rw [(Rr.nVal_no hnone).1], by rw [(Rr.nVal_no hnone).2.1, Bool.or_true]; exact sw.gives (N := [(0, _)]) (.cons rfl (.nil _))⟩)
          ·
            refine cd_skip ?_
            refine ax_block ?_
            refine ax_then ?_
            refine At.regs (L' := [(0, _), (3, _), (4, _), (5, _), (11, _), (12, _), (13, _), (14, _), (15, _), (16, _), (17, _), (18, _), (19, _), (20, _), (21, _), (22, _), (23, _), (24, _), (25, _), (26, _), (27, _), (28, _), (29, _), (30, _), (31, _), (32, _), (33, _), (34, _), (35, _), (36, _), (37, _)]) (.cons rfl (.cons rfl (.cons rfl (.cons rfl (.cons rfl (.cons rfl (.cons rfl (.cons rfl (.cons rfl (.cons rfl (.cons rfl (.cons rfl (.cons rfl (.cons rfl (.cons rfl (.cons rfl (.cons rfl (.cons rfl (.cons rfl (.cons rfl (.cons rfl (.cons rfl (.cons rfl (.cons rfl (.cons rfl (.cons rfl (.cons rfl (.cons rfl (.cons rfl (.cons rfl (.cons rfl (.nil _)))))))))))))))))))))))))))))))) ?_
            refine cd_region ?_
            refine st (ev_add64 rfl rfl (by omega) (by omega)) rfl rfl rfl ?_
            refine st (ev_move rfl) rfl rfl rfl ?_
            refine op_nil ?_
            exact at_again ((i + 1, Rr.acc u c i)) (⟨by show i + 1 ≤ r.length; omega, by show Rr.numG (i + 1) (Rr.acc u c i) (r.drop (i + 1)) = Rr.numS r; rw [← Rr.numG_go hnb (by omega), ← hd]; exact hi.2⟩) (by omega) (.cons rfl (.cons rfl (.cons rfl (.cons rfl (.cons rfl (.nil _)))))) (.cons rfl (.nil _)) (.cons rfl (.nil _))
      ·
        refine st_skip rfl rfl rfl ?_
        refine st_skip rfl rfl rfl ?_
        refine st (ev_pick_f rfl rfl) rfl rfl rfl ?_
        refine st (ev_pick_f rfl rfl) rfl rfl rfl ?_
        refine op_nil ?_
        refine ax_then ?_
        refine At.regs (L' := [(0, _), (3, _), (4, _), (5, _), (11, _), (12, _), (13, _), (14, _), (15, _), (16, _), (17, _), (18, _), (19, _), (20, _), (21, _), (22, _), (23, _), (24, _), (25, _), (26, _), (27, _)]) (.cons rfl (.cons rfl (.cons rfl (.cons rfl (.cons rfl (.cons rfl (.cons rfl (.cons rfl (.cons rfl (.cons rfl (.cons rfl (.cons rfl (.cons rfl (.cons rfl (.cons rfl (.cons rfl (.cons rfl (.cons rfl (.cons rfl (.cons rfl (.cons rfl (.nil _)))))))))))))))))))))) ?_
        refine cd_false rfl ?_
        refine cd_skip ?_
        refine ax_then ?_
        refine At.regs (L' := [(0, _), (3, _), (4, _), (5, _), (11, _), (12, _), (13, _), (14, _), (15, _), (16, _), (17, _), (18, _), (19, _), (20, _), (21, _), (22, _), (23, _), (24, _), (25, _), (26, _), (27, _)]) (.cons rfl (.cons rfl (.cons rfl (.cons rfl (.cons rfl (.cons rfl (.cons rfl (.cons rfl (.cons rfl (.cons rfl (.cons rfl (.cons rfl (.cons rfl (.cons rfl (.cons rfl (.cons rfl (.cons rfl (.cons rfl (.cons rfl (.cons rfl (.cons rfl (.nil _)))))))))))))))))))))) ?_
        refine cd_seq ?_
        refine cd_region ?_
        refine st (ev_move rfl) rfl rfl rfl ?_
        have hnb : ¬ (i ≥ 9 ∨ (i > 0 ∧ c = 0)) := by omega
        refine st (ev_move rfl) rfl rfl rfl ?_
        refine st (ev_and rfl rfl) rfl rfl rfl ?_
        refine st (ev_conv Try.underlying5 Try.underlying135 rfl) rfl rfl rfl ?_
        refine st (ev_move rfl) rfl rfl rfl ?_
        refine st (ev_mul64 rfl rfl (by omega) (by omega)) rfl rfl rfl ?_
        refine st (ev_shl rfl rfl (by omega)) rfl rfl rfl ?_
        refine st (ev_or rfl rfl) rfl rfl rfl ?_
        refine at_eq (i := 35) (v' := .int .u64 (Rr.acc u c i)) rfl rfl ?_
        refine st (ev_assign rfl) rfl rfl rfl ?_
        refine op_nil ?_
        refine ax_then ?_
        refine At.regs (L' := [(0, _), (3, _), (4, _), (5, _), (11, _), (12, _), (13, _), (14, _), (15, _), (16, _), (17, _), (18, _), (19, _), (20, _), (21, _), (22, _), (23, _), (24, _), (25, _), (26, _), (27, _), (28, _), (29, _), (30, _), (31, _), (32, _), (33, _), (34, _), (35, _)]) (.cons rfl (.cons rfl (.cons rfl (.cons rfl (.cons rfl (.cons rfl (.cons rfl (.cons rfl (.cons rfl (.cons rfl (.cons rfl (.cons rfl (.cons rfl (.cons rfl (.cons rfl (.cons rfl (.cons rfl (.cons rfl (.cons rfl (.cons rfl (.cons rfl (.cons rfl (.cons rfl (.cons rfl (.cons rfl (.cons rfl (.cons rfl (.cons rfl (.cons rfl (.nil _)))))))))))))))))))))))))))))) ?_
        refine cd_seq ?_
        refine cd_region ?_
        refine st (ev_move rfl) rfl rfl rfl ?_
        refine st (ev_lss rfl rfl) rfl rfl rfl ?_
        refine op_nil ?_
        refine ax_then ?_
        refine At.regs (L' := [(0, _), (3, _), (4, _), (5, _), (11, _), (12, _), (13, _), (14, _), (15, _), (16, _), (17, _), (18, _), (19, _), (20, _), (21, _), (22, _), (23, _), (24, _), (25, _), (26, _), (27, _), (28, _), (29, _), (30, _), (31, _), (32, _), (33, _), (34, _), (35, _), (36, _), (37, _)]) (.cons rfl (.cons rfl (.cons rfl (.cons rfl (.cons rfl (.cons rfl (.cons rfl (.cons rfl (.cons rfl (.cons rfl (.cons rfl (.cons rfl (.cons rfl (.cons rfl (.cons rfl (.cons rfl (.cons rfl (.cons rfl (.cons rfl (.cons rfl (.cons rfl (.cons rfl (.cons rfl (.cons rfl (.cons rfl (.cons rfl (.cons rfl (.cons rfl (.cons rfl (.cons rfl (.cons rfl (.nil _)))))))))))))))))))))))))))))))) ?_
        refine cd_if rfl (fun hc37 => ?_) (fun hc37 => ?_)
        ·
          refine cd_seq ?_
          refine cd_seq ?_
          refine cd_region ?_
          refine st (ev_move rfl) rfl rfl rfl ?_
          refine st (ev_gtr rfl rfl) rfl rfl rfl ?_
          refine op_nil ?_
          refine ax_then ?_
          refine At.regs (L' := [(0, _), (3, _), (4, _), (5, _), (11, _), (12, _), (13, _), (14, _), (15, _), (16, _), (17, _), (18, _), (19, _), (20, _), (21, _), (22, _), (23, _), (24, _), (25, _), (26, _), (27, _), (28, _), (29, _), (30, _), (31, _), (32, _), (33, _), (34, _), (35, _), (36, _), (37, _), (38, _), (39, _)]) (.cons rfl (.cons rfl (.cons rfl (.cons rfl (.cons rfl (.cons rfl (.cons rfl (.cons rfl (.cons rfl (.cons rfl (.cons rfl (.cons rfl (.cons rfl (.cons rfl (.cons rfl (.cons rfl (.cons rfl (.cons rfl (.cons rfl (.cons rfl (.cons rfl (.cons rfl (.cons rfl (.cons rfl (.cons rfl (.cons rfl (.cons rfl (.cons rfl (.cons rfl (.cons rfl (.cons rfl (.cons rfl (.cons rfl (.nil _)))))))))))))))))))))))))))))))))) ?_
          refine cd_if rfl (fun hc39 => ?_) (fun hc39 => ?_)
          ·
            refine cd_exit ?_
            refine ax_then_exit ?_
            refine ax_block_miss (by decide) ?_
            refine ax_then_exit ?_
            refine ax_then_exit ?_
            refine ax_block_hit ?_
            refine ax_then ?_
            refine At.regs (L' := [(0, _)]) (.cons rfl (.nil _)) ?_
            refine cd_seq ?_
            refine cd_region ?_
            refine st (ev_move rfl) rfl rfl rfl ?_
            refine st_call has81 rfl (fun w1 sw => rbad_any b rv bad w1 (sw.blk_eq (h := 0) rfl)) (mod_blk rfl) rfl rfl (fun _ _ => ?_)
            refine op_nil ?_
            refine ax_then ?_
            refine At.regs (L' := []) (.nil _) ?_
            refine cd_seq ?_
            refine cd_region ?_
            refine st (ev_assign rfl) rfl rfl rfl ?_
            refine op_nil ?_
            refine ax_then ?_
            refine At.regs (L' := [(2, _)]) (.cons rfl (.nil _)) ?_
            refine cd_ret ?_
            refine rt_tmp (.inl rfl) Try.results51 rfl ?_
            first
            | (exact fun w1 sw => ⟨cutAt 1 rv (i + 1) r.length, Rr.nUnd_ok rv hs, by rw [(Rr.nVal_ok hs).1], by rw [(Rr.nVal_ok hs).2.1, Bool.or_false]; exact sw.gives (N := [(0, _)]) (.cons rfl (.nil _))⟩)
            | (have hnone : Rr.numS r = none := by
                 rw [← hi.2]
                 first
                 | (rw [show i = r.length by omega, List.drop_length]; rfl)
                 | (rw [hd]; first | exact Rr.numG_brk (by omega) | exact Rr.numG_big (by omega) (by omega))
               exact fun w1 sw => ⟨Ky.nil0, Rr.nUnd_no rv hnone, by rw [(Rr.nVal_no hnone).1], by rw [(Rr.nVal_no hnone).2.1, Bool.or_true]; exact sw.gives (N := [(0, _)]) (.cons rfl (.nil _))⟩)
          ·
            refine cd_skip ?_
            refine ax_then ?_
            refine At.regs (L' := [(0, _), (3, _), (4, _), (5, _), (11, _), (12, _), (13, _), (14, _), (15, _), (16, _), (17, _), (18, _), (19, _), (20, _), (21, _), (22, _), (23, _), (24, _), (25, _), (26, _), (27, _), (28, _), (29, _), (30, _), (31, _), (32, _), (33, _), (34, _), (35, _), (36, _), (37, _), (38, _), (39, _)]) (.cons rfl (.cons rfl (.cons rfl (.cons rfl (.cons rfl (.cons rfl (.cons rfl (.cons rfl (.cons rfl (.cons rfl (.cons rfl (.cons rfl (.cons rfl (.cons rfl (.cons rfl (.cons rfl (.cons rfl (.cons rfl (.cons rfl (.cons rfl (.cons rfl (.cons rfl (.cons rfl (.cons rfl (.cons rfl (.cons rfl (.cons rfl (.cons rfl (.cons rfl (.cons rfl (.cons rfl (.cons rfl (.cons rfl (.nil _)))))))))))))))))))))))))))))))))) ?_
            refine cd_seq ?_
            refine cd_region ?_
            refine st (ev_move rfl) rfl rfl rfl ?_
            have hs : Rr.numS r = some (Rr.acc u c i, i + 1) := by rw [← hi.2, hd]; exact Rr.numG_ok hnb (by omega) hc39
            have hap := Rr.acc_pos u c i
            have hrng := Rr.numS_spec hs
            refine st (ev_move rfl) rfl rfl rfl ?_
            refine st (ev_nilCheck rfl) rfl rfl rfl ?_
            refine st (ev_fieldAddr (b := _) Try.underlying139 (f := _) rfl ty28 (by decide) rfl) rfl rfl rfl ?_
            refine st (ld_blk1 (h := 0) ty28 rfl rfl rfl rfl) rfl rfl rfl ?_
            refine st (ev_move rfl) rfl rfl rfl ?_
            refine st (ev_add64 rfl rfl (by omega) (by omega)) rfl rfl rfl ?_
            refine st (ev_slicei_lo Try.underlying28 ty5 rfl rfl (fun w1 sw => sw.sl_rd (h := 1) rfl) (by omega) (by first | omega | (simp only [List.length_append, List.length_cons, List.length_nil, List.length_set, List.length_replicate, List.length_take, List.length_drop, ints_length, wr_length, sha_len, node_len, recov_len, Ky.named_len, Ky.keyPub_len, Ky.hashOf_len] <;> omega))) rfl rfl rfl ?_
            refine at_eq (i := 47) (v' := cutAt 1 rv (i + 1) r.length) rfl rfl ?_
            refine st (ev_nilCheck rfl) rfl rfl rfl ?_
            refine st (ev_fieldAddr (b := _) Try.underlying139 (f := _) rfl ty28 (by decide) rfl) rfl rfl rfl ?_
            refine st_store1 0 ty28 rfl rfl rfl (rd_shape (h.cuti (lo := i + 1) (hi := r.length) (by omega) (Nat.le_refl _))).2 (show 0 < 2 from by decide) rfl ?_
            refine at_heq (i := 0) (v' := .blk (b) (.cells ([cutAt 1 rv (i + 1) r.length, .bool (bad)]).toArray 139)) rfl rfl ?_
            refine op_nil ?_
            refine ax_then ?_
            refine At.regs (L' := [(0, _), (3, _), (4, _), (5, _), (11, _), (12, _), (13, _), (14, _), (15, _), (16, _), (17, _), (18, _), (19, _), (20, _), (21, _), (22, _), (23, _), (24, _), (25, _), (26, _), (27, _), (28, _), (29, _), (30, _), (31, _), (32, _), (33, _), (34, _), (35, _), (36, _), (37, _), (38, _), (39, _), (40, _), (41, _), (42, _), (43, _), (44, _), (45, _), (46, _), (47, _), (48, _), (49, _)]) (.cons rfl (.cons rfl (.cons rfl (.cons rfl (.cons rfl (.cons rfl (.cons rfl (.cons rfl (.cons rfl (.cons rfl (.cons rfl (.cons rfl (.cons rfl (.cons rfl (.cons rfl (.cons rfl (.cons rfl (.cons rfl (.cons rfl (.cons rfl (.cons rfl (.cons rfl (.cons rfl (.cons rfl (.cons rfl (.cons rfl (.cons rfl (.cons rfl (.cons rfl (.cons rfl (.cons rfl (.cons rfl (.cons rfl (.cons rfl (.cons rfl (.cons rfl (.cons rfl (.cons rfl (.cons rfl (.cons rfl (.cons rfl (.cons rfl (.cons rfl (.nil _)))))))))))))))))))))))))))))))))))))))))))) ?_
            refine cd_seq ?_
            refine cd_region ?_
            refine st (ev_move rfl) rfl rfl rfl ?_
            refine st (ev_conv64 Try.underlying135 Try.underlying3 rfl (by omega) (by omega)) rfl rfl rfl ?_
            refine st (ev_assign rfl) rfl rfl rfl ?_
            refine op_nil ?_
            refine ax_then ?_
            refine At.regs (L' := [(0, _), (2, _), (3, _), (4, _), (5, _), (11, _), (12, _), (13, _), (14, _), (15, _), (16, _), (17, _), (18, _), (19, _), (20, _), (21, _), (22, _), (23, _), (24, _), (25, _), (26, _), (27, _), (28, _), (29, _), (30, _), (31, _), (32, _), (33, _), (34, _), (35, _), (36, _), (37, _), (38, _), (39, _), (40, _), (41, _), (42, _), (43, _), (44, _), (45, _), (46, _), (47, _), (48, _), (49, _), (50, _), (51, _)]) (.cons rfl (.cons rfl (.cons rfl (.cons rfl (.cons rfl (.cons rfl (.cons rfl (.cons rfl (.cons rfl (.cons rfl (.cons rfl (.cons rfl (.cons rfl (.cons rfl (.cons rfl (.cons rfl (.cons rfl (.cons rfl (.cons rfl (.cons rfl (.cons rfl (.cons rfl (.cons rfl (.cons rfl (.cons rfl (.cons rfl (.cons rfl (.cons rfl (.cons rfl (.cons rfl (.cons rfl (.cons rfl (.cons rfl (.cons rfl (.cons rfl (.cons rfl (.cons rfl (.cons rfl (.cons rfl (.cons rfl (.cons rfl (.cons rfl (.cons rfl (.cons rfl (.cons rfl (.cons rfl (.nil _))))))))))))))))))))))))))))))))))))))))))))))) ?_
            refine cd_ret ?_
            refine ax_block_ret ?_
            refine ax_then_ret ?_
            refine ax_then_ret ?_
            refine ax_block_ret ?_
            refine ax_then_ret ?_
            refine rt_tmp (.inl rfl) Try.results51 rfl ?_
            first
            | (exact fun w1 sw => ⟨cutAt 1 rv (i + 1) r.length, Rr.nUnd_ok rv hs, by rw [(Rr.nVal_ok hs).1], by rw [(Rr.nVal_ok hs).2.1, Bool.or_false]; exact sw.gives (N := [(0, _)]) (.cons rfl (.nil _))⟩)
            | (have hnone : Rr.numS r = none := by
                 rw [← hi.2]
                 first
                 | (rw [show i = r.length by omega, List.drop_length]; rfl)
                 | (rw [hd]; first | exact Rr.numG_brk (by omega) | exact Rr.numG_big (by omega) (by omega))
               exact fun w1 sw => ⟨Ky.nil0, Rr.nUnd_no rv hnone, by rw [(Rr.nVal_no hnone).1], by rw [(Rr.nVal_no hnone).2.1, Bool.or_true]; exact sw.gives (N := [(0, _)]) (.cons rfl (.nil _))⟩)
        ·
          refine cd_skip ?_
          refine ax_block ?_
          refine ax_then ?_
          refine At.regs (L' := [(0, _), (3, _), (4, _), (5, _), (11, _), (12, _), (13, _), (14, _), (15, _), (16, _), (17, _), (18, _), (19, _), (20, _), (21, _), (22, _), (23, _), (24, _), (25, _), (26, _), (27, _), (28, _), (29, _), (30, _), (31, _), (32, _), (33, _), (34, _), (35, _), (36, _), (37, _)]) (.cons rfl (.cons rfl (.cons rfl (.cons rfl (.cons rfl (.cons rfl (.cons rfl (.cons rfl (.cons rfl (.cons rfl (.cons rfl (.cons rfl (.cons rfl (.cons rfl (.cons rfl (.cons rfl (.cons rfl (.cons rfl (.cons rfl (.cons rfl (.cons rfl (.cons rfl (.cons rfl (.cons rfl (.cons rfl (.cons rfl (.cons rfl (.cons rfl (.cons rfl (.cons rfl (.cons rfl (.nil _)))))))))))))))))))))))))))))))) ?_
          refine cd_region ?_
          refine st (ev_add64 rfl rfl (by omega) (by omega)) rfl rfl rfl ?_
          refine st (ev_move rfl) rfl rfl rfl ?_
          refine op_nil ?_
          exact at_again ((i + 1, Rr.acc u c i)) (⟨by show i + 1 ≤ r.length; omega, by show Rr.numG (i + 1) (Rr.acc u c i) (r.drop (i + 1)) = Rr.numS r; rw [← Rr.numG_go hnb (by omega), ← hd]; exact hi.2⟩) (by omega) (.cons rfl (.cons rfl (.cons rfl (.cons rfl (.cons rfl (.nil _)))))) (.cons rfl (.nil _)) (.cons rfl (.nil _))
  ·
    have hlt : ¬ i < r.length := by omega
    have hd : True := trivial
    refine cd_exit ?_
    refine ax_then_exit ?_
    refine ax_then_exit ?_
    refine ax_block_hit ?_
    refine ax_then ?_
    refine At.regs (L' := [(0, _)]) (.cons rfl (.nil _)) ?_
    refine cd_seq ?_
    refine cd_region ?_
    refine st (ev_move rfl) rfl rfl rfl ?_
    refine st_call has81 rfl (fun w1 sw => rbad_any b rv bad w1 (sw.blk_eq (h := 0) rfl)) (mod_blk rfl) rfl rfl (fun _ _ => ?_)
    refine op_nil ?_
    refine ax_then ?_
    refine At.regs (L' := []) (.nil _) ?_
    refine cd_seq ?_
    refine cd_region ?_
    refine st (ev_assign rfl) rfl rfl rfl ?_
    refine op_nil ?_
    refine ax_then ?_
    refine At.regs (L' := [(2, _)]) (.cons rfl (.nil _)) ?_
    refine cd_ret ?_
    refine rt_tmp (.inl rfl) Try.results51 rfl ?_
    first
    | (exact fun w1 sw => ⟨cutAt 1 rv (i + 1) r.length, Rr.nUnd_ok rv hs, by rw [(Rr.nVal_ok hs).1], by rw [(Rr.nVal_ok hs).2.1, Bool.or_false]; exact sw.gives (N := [(0, _)]) (.cons rfl (.nil _))⟩)
    | (have hnone : Rr.numS r = none := by
         rw [← hi.2]
         first
         | (rw [show i = r.length by omega, List.drop_length]; rfl)
         | (rw [hd]; first | exact Rr.numG_brk (by omega) | exact Rr.numG_big (by omega) (by omega))
       exact fun w1 sw => ⟨Ky.nil0, Rr.nUnd_no rv hnone, by rw [(Rr.nVal_no hnone).1], by rw [(Rr.nVal_no hnone).2.1, Bool.or_true]; exact sw.gives (N := [(0, _)]) (.cons rfl (.nil _))⟩)
set_option maxRecDepth 20000 in
set_option maxHeartbeats 1000000 in
theorem qbad_any (b : Nat) (rv : Value) (bad : Bool) (w : World) (hb : w.heap[b]? = some (.cells (List.toArray [rv, .bool bad]) 112)) : Calls Try.prog 84 #[.pointer (some ⟨b, 0, none⟩)] w (Post (ι := Unit) w [b] (fun _ => True) (fun _ => .tuple #[]) (fun _ => [(0, .blk (b) (.cells ([Ky.nil0, .bool (true)]).toArray 112))])) := by
  refine calls_at (vs := [.pointer (some ⟨b, 0, none⟩)]) (X := [b]) (H := [(0, .blk (b) (.cells ([rv, .bool (bad)]).toArray 112))]) (F := []) 8 Try.func84 rfl rfl rfl (Sat.blkX 0 hb) ?_
  refine cd_seq ?_
  refine cd_region ?_
  refine st (ev_move rfl) rfl rfl rfl ?_
  refine st (ev_nilCheck rfl) rfl rfl rfl ?_
  refine st (ev_fieldAddr (b := _) Try.underlying112 (f := _) rfl ty4 (by decide) rfl) rfl rfl rfl ?_
  refine st_store1 0 ty4 rfl rfl rfl rfl (show 1 < 2 from by decide) rfl ?_
  refine at_heq (i := 0) (v' := .blk (b) (.cells ([rv, .bool (true)]).toArray 112)) rfl rfl ?_
  refine op_nil ?_
  refine ax_then ?_
  refine At.regs (L' := [(0, _)]) (.cons rfl (.nil _)) ?_
  refine cd_region ?_
  refine st (ev_move rfl) rfl rfl rfl ?_
  refine st (ev_nilCheck rfl) rfl rfl rfl ?_
  refine st (ev_fieldAddr (b := _) Try.underlying112 (f := _) rfl ty28 (by decide) rfl) rfl rfl rfl ?_
  refine st_store1 0 ty28 rfl rfl rfl rfl (show 0 < 2 from by decide) rfl ?_
  refine at_heq (i := 0) (v' := .blk (b) (.cells ([Ky.nil0, .bool (true)]).toArray 112)) rfl rfl ?_
  refine op_nil ?_
  refine rt_none (.inr rfl) Try.results84 ?_
  exact fun w1 sw => ⟨(), trivial, rfl, sw.gives (N := [(0, _)]) (.cons rfl (.nil _))⟩
set_option maxRecDepth 20000 in
set_option maxHeartbeats 2000000 in
theorem qrawg_ok (b : Nat) (rv : Value) (bad : Bool) (r : List Int) (w : World) (hb : w.heap[b]? = some (.cells (List.toArray [rv, .bool bad]) 112)) (h : Rd w rv 1 (ints .u8 r)) (ho : FE.off b (.sl rv 1 (ints .u8 r))) (hr : r.length ≤ 140737488352000) (he : bad = true → r = []) (n : Int) (hf : Rr.fitsR r n) : Calls Try.prog 83 #[.pointer (some ⟨b, 0, none⟩), .int .i64 n] w (Post (ι := Value × Value) w [b] (fun x => Rr.Und rv r x.1 (Rr.rRest r n)) (fun x => x.2) (fun x => [(0, .blk (b) (.cells ([x.1, .bool (bad || Rr.rBad r n)]).toArray 112)), (1, .own (x.2) 5 1 (ints .u8 (Rr.rOut r n)))])) := by
  have hf0 := hf.1
  have hf1 := hf.2
  refine calls_at (vs := [.pointer (some ⟨b, 0, none⟩), .int .i64 n]) (X := [b]) (H := [(0, .blk (b) (.cells ([rv, .bool (bad)]).toArray 112))]) (F := [(1, .sl rv 1 (ints .u8 r))]) 41 Try.func83 rfl rfl rfl ((Sat.blkX 0 hb).readb (f := .sl rv 1 (ints .u8 r)) 1 h ho) ?_
  refine cd_seq ?_
  refine cd_region ?_
  refine st (ev_assign rfl) rfl rfl rfl ?_
  refine at_own_nil 4 5 1 ?_
  refine at_heq (i := 4) (v' := .own (.slice none 0 0) 5 1 (ints .u8 [])) rfl rfl ?_
  refine op_nil ?_
  refine ax_then ?_
  refine At.regs (L' := [(0, _), (1, _), (4, _)]) (.cons rfl (.cons rfl (.cons rfl (.nil _)))) ?_
  refine cd_seq ?_
  refine cd_seq ?_
  refine cd_region ?_
  refine st (ev_move rfl) rfl rfl rfl ?_
  refine st (ev_lss rfl rfl) rfl rfl rfl ?_
  refine st (ev_move rfl) rfl rfl rfl ?_
  refine at_eq (i := 8) (v' := .bool false) rfl (by simp only [Value.bool.injEq, decide_eq_true_eq, decide_eq_false_iff_not]; omega) ?_
  refine st (ev_move rfl) rfl rfl rfl ?_
  refine st (ev_move rfl) rfl rfl rfl ?_
  refine st (ev_nilCheck rfl) rfl rfl rfl ?_
  refine st (ev_fieldAddr (b := _) Try.underlying112 (f := _) rfl ty28 (by decide) rfl) rfl rfl rfl ?_
  refine st (ld_blk1 (h := 0) ty28 rfl rfl rfl rfl) rfl rfl rfl ?_
  refine st (ev_len_rdi (h := 1) Try.underlying28 rfl rfl) rfl rfl rfl ?_
  refine st (ev_gtr rfl rfl) rfl rfl rfl ?_
  refine st (ev_pick_f rfl rfl) rfl rfl rfl ?_
  refine op_nil ?_
  refine ax_then ?_
  refine At.regs (L' := [(0, _), (1, _), (4, _), (16, _)]) (.cons rfl (.cons rfl (.cons rfl (.cons rfl (.nil _))))) ?_
  refine cd_if_f rfl (by omega) ?_
  refine cd_skip ?_
  refine ax_then ?_
  refine At.regs (L' := [(0, _), (1, _), (4, _)]) (.cons rfl (.cons rfl (.cons rfl (.nil _)))) ?_
  refine cd_seq ?_
  refine cd_seq ?_
  refine cd_region ?_
  refine st (ev_move rfl) rfl rfl rfl ?_
  refine st (ev_nilCheck rfl) rfl rfl rfl ?_
  refine st (ev_fieldAddr (b := _) Try.underlying112 (f := _) rfl ty4 (by decide) rfl) rfl rfl rfl ?_
  refine st (ld_blk1 (h := 0) ty4 rfl rfl rfl rfl) rfl rfl rfl ?_
  refine op_nil ?_
  refine ax_then ?_
  refine At.regs (L' := [(0, _), (1, _), (4, _), (22, _)]) (.cons rfl (.cons rfl (.cons rfl (.cons rfl (.nil _))))) ?_
  refine cd_cond rfl (fun hc22 => ?_) (fun hc22 => ?_)
  ·
    have hr0 := he hc22
    have hn0 : n = 0 := by rw [hr0] at hf1; simp at hf1; omega
    refine cd_seq ?_
    refine cd_region ?_
    refine st (ev_assign rfl) rfl rfl rfl ?_
    refine at_own_nil 4 5 1 ?_
    refine at_heq (i := 4) (v' := .own (.slice none 0 0) 5 1 (ints .u8 [])) rfl rfl ?_
    refine op_nil ?_
    refine ax_then ?_
    refine At.regs (L' := [(0, _), (1, _), (4, _)]) (.cons rfl (.cons rfl (.cons rfl (.nil _)))) ?_
    refine cd_ret ?_
    refine ax_then_ret ?_
    refine rt_tmp (.inl rfl) Try.results83 rfl ?_
    exact fun w1 sw => ⟨(rv, .slice none 0 0), by rw [Rr.rRest, if_pos hf, hn0]; exact Rr.Und.refl rv r, rfl, by rw [hc22, Bool.true_or, show Rr.rOut r n = [] from by rw [Rr.rOut, if_pos hf, hr0]; simp]; rw [hc22] at sw; exact (sw.gives (N := [(0, _), (4, _)]) (.cons rfl (.cons rfl (.nil _)))).rn2 (by decide) 0 1⟩
  ·
    refine cd_skip ?_
    refine ax_then ?_
    refine At.regs (L' := [(0, _), (1, _), (4, _)]) (.cons rfl (.cons rfl (.cons rfl (.nil _)))) ?_
    refine cd_seq ?_
    refine cd_region ?_
    refine st_bsi (h := 23) (xs := []) Try.underlying28 ty5 (by decide) rfl rfl (by decide) rfl rfl (fun b23 => ?_)
    refine st (ev_move rfl) rfl rfl rfl ?_
    refine st (ev_nilCheck rfl) rfl rfl rfl ?_
    refine st (ev_fieldAddr (b := _) Try.underlying112 (f := _) rfl ty28 (by decide) rfl) rfl rfl rfl ?_
    refine st (ld_blk1 (h := 0) ty28 rfl rfl rfl rfl) rfl rfl rfl ?_
    refine st (ev_move rfl) rfl rfl rfl ?_
    refine st (ev_slicei_hi Try.underlying28 ty5 rfl rfl (fun w1 sw => sw.sl_rd (h := 1) rfl) (by omega) (by first | omega | (simp only [List.length_append, List.length_cons, List.length_nil, List.length_set, List.length_replicate, List.length_take, List.length_drop, ints_length, wr_length, sha_len, node_len, recov_len, Ky.named_len, Ky.keyPub_len, Ky.hashOf_len] <;> omega))) rfl rfl rfl ?_
    refine at_eq (i := 29) (v' := cutAt 1 rv 0 n.toNat) rfl rfl ?_
    refine st_appendi (h := 23) (cs := r.take n.toNat) Try.underlying28 Try.underlying28 ty5 rfl rfl rfl rfl (fun w1 sw => (by have := (sw.sl_rd (h := 1) rfl).cuti (lo := 0) (hi := n.toNat) (by omega) (by omega); simpa using this)) (by rw [List.length_take]; simp only [List.length_nil]; omega) (by decide) rfl rfl (fun v30 => ?_)
    refine at_heq (i := 23) (v' := .own (v30) 5 1 (ints .u8 (Rr.rOut r n))) rfl (by rw [show Rr.rOut r n = r.take n.toNat from if_pos hf, List.nil_append]) ?_
    refine st (ev_assign rfl) rfl rfl rfl ?_
    refine op_nil ?_
    refine ax_then ?_
    refine At.regs (L' := [(0, _), (1, _), (4, _), (5, _)]) (.cons rfl (.cons rfl (.cons rfl (.cons rfl (.nil _))))) ?_
    refine cd_seq ?_
    refine cd_region ?_
    refine st (ev_move rfl) rfl rfl rfl ?_
    refine st (ev_move rfl) rfl rfl rfl ?_
    refine st (ev_nilCheck rfl) rfl rfl rfl ?_
    refine st (ev_fieldAddr (b := _) Try.underlying112 (f := _) rfl ty28 (by decide) rfl) rfl rfl rfl ?_
    refine st (ld_blk1 (h := 0) ty28 rfl rfl rfl rfl) rfl rfl rfl ?_
    refine st (ev_move rfl) rfl rfl rfl ?_
    refine st (ev_slicei_lo Try.underlying28 ty5 rfl rfl (fun w1 sw => sw.sl_rd (h := 1) rfl) (by omega) (by first | omega | (simp only [List.length_append, List.length_cons, List.length_nil, List.length_set, List.length_replicate, List.length_take, List.length_drop, ints_length, wr_length, sha_len, node_len, recov_len, Ky.named_len, Ky.keyPub_len, Ky.hashOf_len] <;> omega))) rfl rfl rfl ?_
    refine st (ev_nilCheck rfl) rfl rfl rfl ?_
    refine st (ev_fieldAddr (b := _) Try.underlying112 (f := _) rfl ty28 (by decide) rfl) rfl rfl rfl ?_
    refine st_store1 0 ty28 rfl rfl rfl (rd_shape (h.cuti (lo := n.toNat) (hi := r.length) (by omega) (Nat.le_refl _))).2 (show 0 < 2 from by decide) rfl ?_
    refine at_heq (i := 0) (v' := .blk (b) (.cells ([cutAt 1 rv n.toNat r.length, .bool (bad)]).toArray 112)) rfl rfl ?_
    refine op_nil ?_
    refine ax_then ?_
    refine At.regs (L' := [(4, _), (5, _)]) (.cons rfl (.cons rfl (.nil _))) ?_
    refine cd_seq ?_
    refine cd_region ?_
    refine st (ev_move rfl) rfl rfl rfl ?_
    refine st (ev_assign rfl) rfl rfl rfl ?_
    refine op_nil ?_
    refine ax_then ?_
    refine At.regs (L' := [(4, _)]) (.cons rfl (.nil _)) ?_
    refine cd_ret ?_
    refine rt_tmp (.inl rfl) Try.results83 rfl ?_
    exact fun w1 sw => ⟨(cutAt 1 rv n.toNat r.length, v30), Rr.rUnd_ok rv hf, rfl, by rw [show Rr.rBad r n = false from by rw [Rr.rBad, decide_eq_true hf]; rfl, Bool.or_false]; exact (sw.gives (N := [(0, _), (23, _)]) (.cons rfl (.cons rfl (.nil _)))).rn2 (by decide) 0 1⟩
set_option maxRecDepth 20000 in
set_option maxHeartbeats 2000000 in
theorem qrawg_neg (b : Nat) (rv : Value) (bad : Bool) (r : List Int) (w : World) (hb : w.heap[b]? = some (.cells (List.toArray [rv, .bool bad]) 112)) (h : Rd w rv 1 (ints .u8 r)) (ho : FE.off b (.sl rv 1 (ints .u8 r))) (hr : r.length ≤ 140737488352000) (he : bad = true → r = []) (n : Int) (hn : n < 0) : Calls Try.prog 83 #[.pointer (some ⟨b, 0, none⟩), .int .i64 n] w (Post (ι := Value × Value) w [b] (fun x => Rr.Und rv r x.1 (Rr.rRest r n)) (fun x => x.2) (fun x => [(0, .blk (b) (.cells ([x.1, .bool (bad || Rr.rBad r n)]).toArray 112)), (1, .own (x.2) 5 1 (ints .u8 (Rr.rOut r n)))])) := by
  have hf : ¬ Rr.fitsR r n := fun hh => by have := hh.1; have := hh.2; omega
  refine calls_at (vs := [.pointer (some ⟨b, 0, none⟩), .int .i64 n]) (X := [b]) (H := [(0, .blk (b) (.cells ([rv, .bool (bad)]).toArray 112))]) (F := [(1, .sl rv 1 (ints .u8 r))]) 41 Try.func83 rfl rfl rfl ((Sat.blkX 0 hb).readb (f := .sl rv 1 (ints .u8 r)) 1 h ho) ?_
  refine cd_seq ?_
  refine cd_region ?_
  refine st (ev_assign rfl) rfl rfl rfl ?_
  refine at_own_nil 4 5 1 ?_
  refine at_heq (i := 4) (v' := .own (.slice none 0 0) 5 1 (ints .u8 [])) rfl rfl ?_
  refine op_nil ?_
  refine ax_then ?_
  refine At.regs (L' := [(0, _), (1, _), (4, _)]) (.cons rfl (.cons rfl (.cons rfl (.nil _)))) ?_
  refine cd_seq ?_
  refine cd_seq ?_
  refine cd_region ?_
  refine st (ev_move rfl) rfl rfl rfl ?_
  refine st (ev_lss rfl rfl) rfl rfl rfl ?_
  refine st (ev_move rfl) rfl rfl rfl ?_
  refine at_eq (i := 8) (v' := .bool true) rfl (by simp only [Value.bool.injEq, decide_eq_true_eq, decide_eq_false_iff_not]; omega) ?_
  refine st_skip rfl rfl rfl ?_
  refine st_skip rfl rfl rfl ?_
  refine st_skip rfl rfl rfl ?_
  refine st_skip rfl rfl rfl ?_
  refine st_skip rfl rfl rfl ?_
  refine st_skip rfl rfl rfl ?_
  refine st_skip rfl rfl rfl ?_
  refine st (ev_pick_t rfl rfl) rfl rfl rfl ?_
  refine op_nil ?_
  refine ax_then ?_
  refine At.regs (L' := [(0, _), (1, _), (4, _), (16, _)]) (.cons rfl (.cons rfl (.cons rfl (.cons rfl (.nil _))))) ?_
  refine cd_true rfl ?_
  refine cd_region ?_
  refine st (ev_move rfl) rfl rfl rfl ?_
  refine st_call has84 rfl (fun w1 sw => qbad_any b rv bad w1 (sw.blk_eq (h := 0) rfl)) (mod_blk rfl) rfl rfl (fun _ _ => ?_)
  refine op_nil ?_
  refine ax_then ?_
  refine At.regs (L' := [(0, _), (1, _), (4, _)]) (.cons rfl (.cons rfl (.cons rfl (.nil _)))) ?_
  refine cd_seq ?_
  refine cd_seq ?_
  refine cd_region ?_
  refine st (ev_move rfl) rfl rfl rfl ?_
  refine st (ev_nilCheck rfl) rfl rfl rfl ?_
  refine st (ev_fieldAddr (b := _) Try.underlying112 (f := _) rfl ty4 (by decide) rfl) rfl rfl rfl ?_
  refine st (ld_blk1 (h := 0) ty4 rfl rfl rfl rfl) rfl rfl rfl ?_
  refine op_nil ?_
  refine ax_then ?_
  refine At.regs (L' := [(0, _), (1, _), (4, _), (22, _)]) (.cons rfl (.cons rfl (.cons rfl (.cons rfl (.nil _))))) ?_
  refine cd_true rfl ?_
  refine cd_seq ?_
  refine cd_region ?_
  refine st (ev_assign rfl) rfl rfl rfl ?_
  refine at_own_nil 4 5 1 ?_
  refine at_heq (i := 4) (v' := .own (.slice none 0 0) 5 1 (ints .u8 [])) rfl rfl ?_
  refine op_nil ?_
  refine ax_then ?_
  refine At.regs (L' := [(0, _), (1, _), (4, _)]) (.cons rfl (.cons rfl (.cons rfl (.nil _)))) ?_
  refine cd_ret ?_
  refine ax_then_ret ?_
  refine rt_tmp (.inl rfl) Try.results83 rfl ?_
  exact fun w1 sw => ⟨(Ky.nil0, .slice none 0 0), Rr.rUnd_no rv hf, rfl, by rw [show Rr.rBad r n = true from by rw [Rr.rBad, decide_eq_false hf]; rfl, Bool.or_true, show Rr.rOut r n = [] from by rw [Rr.rOut, if_neg hf]]; exact (sw.gives (N := [(0, _), (4, _)]) (.cons rfl (.cons rfl (.nil _)))).rn2 (by decide) 0 1⟩
set_option maxRecDepth 20000 in
set_option maxHeartbeats 2000000 in
theorem qrawg_far (b : Nat) (rv : Value) (bad : Bool) (r : List Int) (w : World) (hb : w.heap[b]? = some (.cells (List.toArray [rv, .bool bad]) 112)) (h : Rd w rv 1 (ints .u8 r)) (ho : FE.off b (.sl rv 1 (ints .u8 r))) (hr : r.length ≤ 140737488352000) (he : bad = true → r = []) (n : Int) (hn0 : 0 ≤ n) (hn : n > (r.length : Nat)) : Calls Try.prog 83 #[.pointer (some ⟨b, 0, none⟩), .int .i64 n] w (Post (ι := Value × Value) w [b] (fun x => Rr.Und rv r x.1 (Rr.rRest r n)) (fun x => x.2) (fun x => [(0, .blk (b) (.cells ([x.1, .bool (bad || Rr.rBad r n)]).toArray 112)), (1, .own (x.2) 5 1 (ints .u8 (Rr.rOut r n)))])) := by
  have hf : ¬ Rr.fitsR r n := fun hh => by have := hh.1; have := hh.2; omega
  refine calls_at (vs := [.pointer (some ⟨b, 0, none⟩), .int .i64 n]) (X := [b]) (H := [(0, .blk (b) (.cells ([rv, .bool (bad)]).toArray 112))]) (F := [(1, .sl rv 1 (ints .u8 r))]) 41 Try.func83 rfl rfl rfl ((Sat.blkX 0 hb).readb (f := .sl rv 1 (ints .u8 r)) 1 h ho) ?_
  refine cd_seq ?_
  refine cd_region ?_
  refine st (ev_assign rfl) rfl rfl rfl ?_
  refine at_own_nil 4 5 1 ?_
  refine at_heq (i := 4) (v' := .own (.slice none 0 0) 5 1 (ints .u8 [])) rfl rfl ?_
  refine op_nil ?_
  refine ax_then ?_
  refine At.regs (L' := [(0, _), (1, _), (4, _)]) (.cons rfl (.cons rfl (.cons rfl (.nil _)))) ?_
  refine cd_seq ?_
  refine cd_seq ?_
  refine cd_region ?_
  refine st (ev_move rfl) rfl rfl rfl ?_
  refine st (ev_lss rfl rfl) rfl rfl rfl ?_
  refine st (ev_move rfl) rfl rfl rfl ?_
  refine at_eq (i := 8) (v' := .bool false) rfl (by simp only [Value.bool.injEq, decide_eq_true_eq, decide_eq_false_iff_not]; omega) ?_
  refine st (ev_move rfl) rfl rfl rfl ?_
  refine st (ev_move rfl) rfl rfl rfl ?_
  refine st (ev_nilCheck rfl) rfl rfl rfl ?_
  refine st (ev_fieldAddr (b := _) Try.underlying112 (f := _) rfl ty28 (by decide) rfl) rfl rfl rfl ?_
  refine st (ld_blk1 (h := 0) ty28 rfl rfl rfl rfl) rfl rfl rfl ?_
  refine st (ev_len_rdi (h := 1) Try.underlying28 rfl rfl) rfl rfl rfl ?_
  refine st (ev_gtr rfl rfl) rfl rfl rfl ?_
  refine st (ev_pick_f rfl rfl) rfl rfl rfl ?_
  refine op_nil ?_
  refine ax_then ?_
  refine At.regs (L' := [(0, _), (1, _), (4, _), (16, _)]) (.cons rfl (.cons rfl (.cons rfl (.cons rfl (.nil _))))) ?_
  refine cd_if_t rfl (by omega) ?_
  refine cd_region ?_
  refine st (ev_move rfl) rfl rfl rfl ?_
  refine st_call has84 rfl (fun w1 sw => qbad_any b rv bad w1 (sw.blk_eq (h := 0) rfl)) (mod_blk rfl) rfl rfl (fun _ _ => ?_)
  refine op_nil ?_
  refine ax_then ?_
  refine At.regs (L' := [(0, _), (1, _), (4, _)]) (.cons rfl (.cons rfl (.cons rfl (.nil _)))) ?_
  refine cd_seq ?_
  refine cd_seq ?_
  refine cd_region ?_
  refine st (ev_move rfl) rfl rfl rfl ?_
  refine st (ev_nilCheck rfl) rfl rfl rfl ?_
  refine st (ev_fieldAddr (b := _) Try.underlying112 (f := _) rfl ty4 (by decide) rfl) rfl rfl rfl ?_
  refine st (ld_blk1 (h := 0) ty4 rfl rfl rfl rfl) rfl rfl rfl ?_
  refine op_nil ?_
  refine ax_then ?_
  refine At.regs (L' := [(0, _), (1, _), (4, _), (22, _)]) (.cons rfl (.cons rfl (.cons rfl (.cons rfl (.nil _))))) ?_
  refine cd_true rfl ?_
  refine cd_seq ?_
  refine cd_region ?_
  refine st (ev_assign rfl) rfl rfl rfl ?_
  refine at_own_nil 4 5 1 ?_
  refine at_heq (i := 4) (v' := .own (.slice none 0 0) 5 1 (ints .u8 [])) rfl rfl ?_
  refine op_nil ?_
  refine ax_then ?_
  refine At.regs (L' := [(0, _), (1, _), (4, _)]) (.cons rfl (.cons rfl (.cons rfl (.nil _)))) ?_
  refine cd_ret ?_
  refine ax_then_ret ?_
  refine rt_tmp (.inl rfl) Try.results83 rfl ?_
  exact fun w1 sw => ⟨(Ky.nil0, .slice none 0 0), Rr.rUnd_no rv hf, rfl, by rw [show Rr.rBad r n = true from by rw [Rr.rBad, decide_eq_false hf]; rfl, Bool.or_true, show Rr.rOut r n = [] from by rw [Rr.rOut, if_neg hf]]; exact (sw.gives (N := [(0, _), (4, _)]) (.cons rfl (.cons rfl (.nil _)))).rn2 (by decide) 0 1⟩
theorem qraw_g (b : Nat) (rv : Value) (bad : Bool) (r : List Int) (w : World) (hb : w.heap[b]? = some (.cells (List.toArray [rv, .bool bad]) 112)) (h : Rd w rv 1 (ints .u8 r)) (ho : FE.off b (.sl rv 1 (ints .u8 r))) (hr : r.length ≤ 140737488352000) (he : bad = true → r = []) (n : Int) : Calls Try.prog 83 #[.pointer (some ⟨b, 0, none⟩), .int .i64 n] w (Post (ι := Value × Value) w [b] (fun x => Rr.Und rv r x.1 (Rr.rRest r n)) (fun x => x.2) (fun x => [(0, .blk (b) (.cells ([x.1, .bool (bad || Rr.rBad r n)]).toArray 112)), (1, .own (x.2) 5 1 (ints .u8 (Rr.rOut r n)))])) := by
  by_cases h0 : n < 0
  · exact qrawg_neg b rv bad r w hb h ho hr he n h0
  · by_cases h1 : n > (r.length : Nat)
    · exact qrawg_far b rv bad r w hb h ho hr he n (by omega) h1
    · exact qrawg_ok b rv bad r w hb h ho hr he n ⟨by omega, by omega⟩
end Go.Proofs.Ytgfnmolbagilmaa

namespace Go.Proofs.Ytgfnmolbagilmaa
open Go Go.RowKit Fw
open Sha
open Ots
open Mk
set_option linter.unusedVariables false
set_option linter.unusedSimpArgs false
set_option maxRecDepth 20000 in
set_option maxHeartbeats 2000000 in
theorem qnum_any (n : Int) (w : World) : Calls Try.prog 103 #[.int .i64 n] w (Post (ι := Value) w [] (fun _ => True) (fun v => v) (fun v => [(0, .own (v) 5 1 (ints .u8 (Rr.num n)))])) := by
  refine calls_at (vs := [.int .i64 n]) (X := []) (H := []) (F := []) 27 Try.func103 rfl rfl rfl (Sat.start0 w) ?_
  refine cd_seq ?_
  refine cd_region ?_
  refine st (ev_assign rfl) rfl rfl rfl ?_
  refine at_own_nil 2 5 1 ?_
  refine at_heq (i := 2) (v' := .own (.slice none 0 0) 5 1 (ints .u8 [])) rfl rfl ?_
  refine op_nil ?_
  refine ax_then ?_
  refine At.regs (L' := [(0, _), (2, _)]) (.cons rfl (.cons rfl (.nil _))) ?_
  refine cd_seq ?_
  refine cd_region ?_
  refine st (ev_assign rfl) rfl rfl rfl ?_
  refine op_nil ?_
  refine ax_then ?_
  refine At.regs (L' := [(0, _), (2, _), (3, _)]) (.cons rfl (.cons rfl (.cons rfl (.nil _)))) ?_
  refine cd_join (ι := Unit) (fun _ => True) (fun _ => [(3, .int .u64 (Rr.clampN n : Int))]) (fun _ => []) (fun _ => []) ?_ (fun _ hj => ?_)
  ·
    refine cd_seq ?_
    refine cd_region ?_
    refine st (ev_move rfl) rfl rfl rfl ?_
    refine st (ev_gtr rfl rfl) rfl rfl rfl ?_
    refine op_nil ?_
    refine ax_then ?_
    refine At.regs (L' := [(0, _), (2, _), (3, _), (6, _)]) (.cons rfl (.cons rfl (.cons rfl (.cons rfl (.nil _))))) ?_
    refine cd_if rfl (fun hc6 => ?_) (fun hc6 => ?_)
    ·
      refine cd_region ?_
      refine st (ev_assign rfl) rfl rfl rfl ?_
      refine op_nil ?_
      refine ax_eq (i := 3) (v' := .int .u64 (Rr.clampN n : Int)) rfl (by rw [show (Rr.clampN n : Int) = 4611686018427387904 by unfold Rr.clampN; omega]) ?_
      exact at_met (()) (trivial) (.cons rfl (.nil _)) (.nil _) (.nil _)
    ·
      refine cd_seq ?_
      refine cd_region ?_
      refine st (ev_move rfl) rfl rfl rfl ?_
      refine st (ev_gtr rfl rfl) rfl rfl rfl ?_
      refine op_nil ?_
      refine ax_then ?_
      refine At.regs (L' := [(0, _), (2, _), (3, _), (8, _)]) (.cons rfl (.cons rfl (.cons rfl (.cons rfl (.nil _))))) ?_
      refine cd_if rfl (fun hc8 => ?_) (fun hc8 => ?_)
      ·
        refine cd_region ?_
        refine st (ev_move rfl) rfl rfl rfl ?_
        refine st (ev_convu64 Try.underlying3 Try.underlying135 rfl (by omega) (by omega)) rfl rfl rfl ?_
        refine st (ev_assign rfl) rfl rfl rfl ?_
        refine op_nil ?_
        refine ax_eq (i := 3) (v' := .int .u64 (Rr.clampN n : Int)) rfl (by rw [show (Rr.clampN n : Int) = n by unfold Rr.clampN; omega]) ?_
        exact at_met (()) (trivial) (.cons rfl (.nil _)) (.nil _) (.nil _)
      ·
        refine cd_skip ?_
        refine ax_eq (i := 3) (v' := .int .u64 (Rr.clampN n : Int)) rfl (by rw [show (Rr.clampN n : Int) = 0 by unfold Rr.clampN; omega]) ?_
        exact at_met (()) (trivial) (.cons rfl (.nil _)) (.nil _) (.nil _)
  ·
    refine cd_seq ?_
    refine cd_region ?_
    refine st (ev_assign rfl) rfl rfl rfl ?_
    refine at_own_nil 4 5 1 ?_
    refine at_heq (i := 4) (v' := .own (.slice none 0 0) 5 1 (ints .u8 [])) rfl rfl ?_
    refine op_nil ?_
    refine ax_then ?_
    refine At.regs (L' := [(3, _), (4, _)]) (.cons rfl (.cons rfl (.nil _))) ?_
    refine cd_seq ?_
    refine cd_block ?_
    refine cd_loop (ι := Nat × Value × List Int) (fun y => y.2.2 ++ Rr.encN y.1 = Rr.num n ∧ y.1 ≤ 4611686018427387904) (fun y => y.1)
        (fun y => [(3, .int .u64 (y.1 : Int)), (4, y.2.1)])
        (fun y => [(4, .own (y.2.1) 5 1 (ints .u8 (y.2.2)))])
        (fun y => [])
        (Rr.clampN n, .slice none 0 0, []) (⟨rfl, Rr.clampN_le n⟩) (.cons rfl (.cons rfl (.nil _))) (.cons rfl (.nil _)) (.nil _) (fun y hi => ?_)
    obtain ⟨u, v, out⟩ := y
    dsimp only at hi ⊢
    have hi2 := hi.2
    have hol : out.length ≤ 9 := by
      have h1 := congrArg List.length hi.1
      rw [List.length_append] at h1
      have h2 := Rr.num_len n
      omega
    refine cd_seq ?_
    refine cd_seq ?_
    refine cd_region ?_
    refine st (ev_move rfl) rfl rfl rfl ?_
    refine st (ev_geq rfl rfl) rfl rfl rfl ?_
    refine op_nil ?_
    refine ax_then ?_
    refine At.regs (L' := [(3, _), (4, _), (11, _), (12, _)]) (.cons rfl (.cons rfl (.cons rfl (.cons rfl (.nil _))))) ?_
    refine cd_if rfl (fun hc12 => ?_) (fun hc12 => ?_)
    ·
      refine cd_skip ?_
      refine ax_then ?_
      refine At.regs (L' := [(3, _), (4, _), (11, _), (12, _)]) (.cons rfl (.cons rfl (.cons rfl (.cons rfl (.nil _))))) ?_
      refine cd_block ?_
      refine cd_seq ?_
      refine cd_region ?_
      refine st (ev_move rfl) rfl rfl rfl ?_
      refine st (ev_move rfl) rfl rfl rfl ?_
      refine st (ev_and rfl rfl) rfl rfl rfl ?_
      refine st (ev_conv Try.underlying135 Try.underlying5 rfl) rfl rfl rfl ?_
      refine st (ev_or rfl rfl) rfl rfl rfl ?_
      refine at_eq (i := 17) (v' := .int .u8 (((u % 128 + 128 : Nat)) : Int)) rfl (by rw [Rr.lay8r u (by omega)]) ?_
      refine st_bsi (h := 18) (xs := [_]) Try.underlying28 ty5 (by decide) rfl rfl (by decide) rfl rfl (fun b18 => ?_)
      refine st_appendi (h := 4) Try.underlying28 Try.underlying28 ty5 rfl rfl rfl rfl (fun w1 sw => sw.own_rd (h := 18) rfl) (by first | omega | (simp only [List.length_append, List.length_cons, List.length_nil, List.length_set, List.length_replicate, List.length_take, List.length_drop, ints_length, wr_length, sha_len, node_len, recov_len, Ky.named_len, Ky.keyPub_len, Ky.hashOf_len] <;> omega)) (by decide) rfl rfl (fun v19 => ?_)
      refine st (ev_assign rfl) rfl rfl rfl ?_
      refine op_nil ?_
      refine ax_then ?_
      refine At.regs (L' := [(3, _), (4, _), (11, _), (12, _), (13, _), (14, _), (15, _), (16, _), (17, _), (18, _), (19, _)]) (.cons rfl (.cons rfl (.cons rfl (.cons rfl (.cons rfl (.cons rfl (.cons rfl (.cons rfl (.cons rfl (.cons rfl (.cons rfl (.nil _)))))))))))) ?_
      refine cd_region ?_
      refine st (ev_move rfl) rfl rfl rfl ?_
      refine st (ev_shr rfl rfl (by omega)) rfl rfl rfl ?_
      refine at_eq (i := 21) (v' := .int .u64 ((u / 128 : Nat) : Int)) rfl (by rw [Rr.shr7]) ?_
      refine st (ev_assign rfl) rfl rfl rfl ?_
      refine op_nil ?_
      refine ax_block ?_
      exact at_again ((u / 128, v19, out ++ [(((u % 128 + 128 : Nat)) : Int)])) (⟨by show (out ++ [(((u % 128 + 128 : Nat)) : Int)]) ++ Rr.encN (u / 128) = Rr.num n; rw [List.append_assoc, List.singleton_append, ← Rr.encN_ge (by omega)]; exact hi.1, by show u / 128 ≤ 4611686018427387904; omega⟩) (by show u / 128 < u; omega) (.cons rfl (.cons rfl (.nil _))) (.cons rfl (.nil _)) (.nil _)
    ·
      refine cd_exit ?_
      refine ax_then_exit ?_
      refine ax_then_exit ?_
      refine ax_block_hit ?_
      refine ax_then ?_
      refine At.regs (L' := [(3, _), (4, _)]) (.cons rfl (.cons rfl (.nil _))) ?_
      refine cd_seq ?_
      refine cd_region ?_
      refine st (ev_move rfl) rfl rfl rfl ?_
      refine st (ev_move rfl) rfl rfl rfl ?_
      refine st (ev_conv Try.underlying135 Try.underlying5 rfl) rfl rfl rfl ?_
      refine at_eq (i := 24) (v' := .int .u8 (u : Int)) rfl (by rw [Rr.low8 (by omega)]) ?_
      refine st_bsi (h := 25) (xs := [_]) Try.underlying28 ty5 (by decide) rfl rfl (by decide) rfl rfl (fun b25 => ?_)
      refine st_appendi (h := 4) Try.underlying28 Try.underlying28 ty5 rfl rfl rfl rfl (fun w1 sw => sw.own_rd (h := 25) rfl) (by first | omega | (simp only [List.length_append, List.length_cons, List.length_nil, List.length_set, List.length_replicate, List.length_take, List.length_drop, ints_length, wr_length, sha_len, node_len, recov_len, Ky.named_len, Ky.keyPub_len, Ky.hashOf_len] <;> omega)) (by decide) rfl rfl (fun v26 => ?_)
      refine at_heq (i := 4) (v' := .own (v26) 5 1 (ints .u8 (Rr.num n))) rfl (by rw [← hi.1, Rr.encN_lt (by omega)]) ?_
      refine st (ev_assign rfl) rfl rfl rfl ?_
      refine op_nil ?_
      refine ax_then ?_
      refine At.regs (L' := [(2, _)]) (.cons rfl (.nil _)) ?_
      refine cd_ret ?_
      refine rt_tmp (.inl rfl) Try.results103 rfl ?_
      exact fun w1 sw => ⟨v26, trivial, rfl, (sw.gives (N := [(4, _)]) (.cons rfl (.nil _))).rn 0⟩
set_option maxRecDepth 20000 in
set_option maxHeartbeats 2000000 in
theorem qnums_any (q : Value) (ns : List Int) (w : World) (hn : ns.length ≤ 1000) (h : Rd w q 1 (ints .i64 ns)) : Calls Try.prog 71 #[q] w (Post (ι := Value) w [] (fun _ => True) (fun v => v) (fun v => [(0, .own (v) 5 1 (ints .u8 (Rr.nums ns)))])) := by
  refine calls_at (vs := [q]) (X := []) (H := []) (F := [(20, .sl q 1 (ints .i64 ns))]) 19 Try.func71 rfl rfl rfl (Sat.rd0 20 h) ?_
  refine cd_seq ?_
  refine cd_region ?_
  refine st (ev_assign rfl) rfl rfl rfl ?_
  refine at_own_nil 2 5 1 ?_
  refine at_heq (i := 2) (v' := .own (.slice none 0 0) 5 1 (ints .u8 [])) rfl rfl ?_
  refine op_nil ?_
  refine ax_then ?_
  refine At.regs (L' := [(0, _), (2, _)]) (.cons rfl (.cons rfl (.nil _))) ?_
  refine cd_seq ?_
  refine cd_region ?_
  refine st (ev_assign rfl) rfl rfl rfl ?_
  refine at_own_nil 3 5 1 ?_
  refine at_heq (i := 3) (v' := .own (.slice none 0 0) 5 1 (ints .u8 [])) rfl rfl ?_
  refine op_nil ?_
  refine ax_then ?_
  refine At.regs (L' := [(0, _), (2, _), (3, _)]) (.cons rfl (.cons rfl (.cons rfl (.nil _)))) ?_
  refine cd_seq ?_
  refine cd_seq ?_
  refine cd_region ?_
  refine st (ev_assign rfl) rfl rfl rfl ?_
  refine op_nil ?_
  refine ax_then ?_
  refine At.regs (L' := [(0, _), (2, _), (3, _), (4, _)]) (.cons rfl (.cons rfl (.cons rfl (.cons rfl (.nil _))))) ?_
  refine cd_block ?_
  refine cd_loop (ι := Nat × Value) (fun x => x.1 ≤ ns.length) (fun x => ns.length - x.1)
      (fun x => [(0, q), (3, x.2), (4, .int .i64 (x.1 : Int))])
      (fun x => [(3, .own (x.2) 5 1 (ints .u8 (Rr.nums (ns.take x.1))))])
      (fun x => [(20, .sl q 1 (ints .i64 ns))])
      (0, .slice none 0 0) (by omega) (.cons rfl (.cons rfl (.cons rfl (.nil _)))) (.cons rfl (.nil _)) (.cons rfl (.nil _)) (fun x hi => ?_)
  have hml := Rr.nums_len (ns.take x.1)
  have htl : (ns.take x.1).length ≤ ns.length := by rw [List.length_take]; omega
  refine cd_seq ?_
  refine cd_seq ?_
  refine cd_region ?_
  refine st (ev_move rfl) rfl rfl rfl ?_
  refine st (ev_move rfl) rfl rfl rfl ?_
  refine st (ev_len_rdi (h := 20) Try.underlying49 rfl rfl) rfl rfl rfl ?_
  refine st (ev_lss rfl rfl) rfl rfl rfl ?_
  refine op_nil ?_
  refine ax_then ?_
  refine At.regs (L' := [(0, _), (3, _), (4, _), (5, _), (6, _), (7, _), (8, _)]) (.cons rfl (.cons rfl (.cons rfl (.cons rfl (.cons rfl (.cons rfl (.cons rfl (.nil _)))))))) ?_
  refine cd_if rfl (fun hc8 => ?_) (fun hc8 => ?_)
  ·
    refine cd_skip ?_
    refine ax_then ?_
    refine At.regs (L' := [(0, _), (3, _), (4, _), (5, _), (6, _), (7, _), (8, _)]) (.cons rfl (.cons rfl (.cons rfl (.cons rfl (.cons rfl (.cons rfl (.cons rfl (.nil _)))))))) ?_
    refine cd_seq ?_
    refine cd_block ?_
    refine cd_region ?_
    refine st (ev_move rfl) rfl rfl rfl ?_
    refine st (ev_move rfl) rfl rfl rfl ?_
    refine st (ev_move rfl) rfl rfl rfl ?_
    refine st (ev_indexAddr_rdi (h := 20) Try.underlying49 ty3 rfl rfl rfl (by omega) (by first | omega | (simp only [List.length_append, List.length_cons, List.length_nil, List.length_set, List.length_replicate, List.length_take, List.length_drop, ints_length, wr_length, sha_len, node_len, recov_len, Ky.named_len, Ky.keyPub_len, Ky.hashOf_len] <;> omega))) rfl rfl rfl ?_
    refine st (ld_rd1 (h := 20) ty3 rfl rfl rfl (ints_get _ _ _ (by first | omega | (simp only [List.length_append, List.length_cons, List.length_nil, List.length_set, List.length_replicate, List.length_take, List.length_drop, ints_length, wr_length, sha_len, node_len, recov_len, Ky.named_len, Ky.keyPub_len, Ky.hashOf_len] <;> omega) | rfl))) rfl rfl rfl ?_
    refine st_call has103 rfl (fun w1 sw => rn 16 (qnum_any _ w1)) nil_all rfl rfl (fun v16 _ => ?_)
    have hnl := Rr.num_len (ns.getD (x.1 : Int).toNat 0)
    have hnx : ns.getD (x.1 : Int).toNat 0 = ns[x.1]'(by omega) := by rw [Int.toNat_natCast, List.getD_eq_getElem?_getD, List.getElem?_eq_getElem (by omega)]; rfl
    refine st_appendi (h := 3) Try.underlying28 Try.underlying28 ty5 rfl rfl rfl rfl (fun w1 sw => sw.own_rd (h := 16) rfl) (by first | omega | (simp only [List.length_append, List.length_cons, List.length_nil, List.length_set, List.length_replicate, List.length_take, List.length_drop, ints_length, wr_length, sha_len, node_len, recov_len, Ky.named_len, Ky.keyPub_len, Ky.hashOf_len] <;> omega)) (by decide) rfl rfl (fun v17 => ?_)
    refine st (ev_assign rfl) rfl rfl rfl ?_
    refine op_nil ?_
    refine ax_block ?_
    refine ax_then ?_
    refine At.regs (L' := [(0, _), (3, _), (4, _), (5, _), (6, _), (7, _), (8, _), (11, _), (12, _), (13, _), (14, _), (15, _), (16, _), (17, _)]) (.cons rfl (.cons rfl (.cons rfl (.cons rfl (.cons rfl (.cons rfl (.cons rfl (.cons rfl (.cons rfl (.cons rfl (.cons rfl (.cons rfl (.cons rfl (.cons rfl (.nil _))))))))))))))) ?_
    refine cd_region ?_
    refine st (ev_move rfl) rfl rfl rfl ?_
    refine st (ev_add64 rfl rfl (by omega) (by omega)) rfl rfl rfl ?_
    refine st (ev_assign rfl) rfl rfl rfl ?_
    refine op_nil ?_
    refine ax_heq (i := 3) (v' := .own (v17) 5 1 (ints .u8 (Rr.nums (ns.take (x.1 + 1))))) rfl (by rw [List.take_succ_eq_append_getElem (by omega), Rr.nums_snoc, hnx]) ?_
    exact at_again ((x.1 + 1, v17)) (by show x.1 + 1 ≤ ns.length; omega) (by omega) (.cons rfl (.cons rfl (.cons rfl (.nil _)))) (.cons rfl (.nil _)) (.cons rfl (.nil _))
  ·
    obtain ⟨j, v⟩ := x
    dsimp only at hi hc8 ⊢
    obtain rfl : j = ns.length := by omega
    refine at_heq (i := 3) (v' := .own (v) 5 1 (ints .u8 (Rr.nums ns))) rfl (by rw [List.take_length]) ?_
    refine cd_exit ?_
    refine ax_then_exit ?_
    refine ax_then_exit ?_
    refine ax_block_hit ?_
    refine ax_then ?_
    refine At.regs (L' := [(3, _)]) (.cons rfl (.nil _)) ?_
    refine cd_seq ?_
    refine cd_region ?_
    refine st (ev_move rfl) rfl rfl rfl ?_
    refine st (ev_assign rfl) rfl rfl rfl ?_
    refine op_nil ?_
    refine ax_then ?_
    refine At.regs (L' := [(2, _)]) (.cons rfl (.nil _)) ?_
    refine cd_ret ?_
    refine rt_tmp (.inl rfl) Try.results71 rfl ?_
    exact fun w1 sw => ⟨v, trivial, rfl, (sw.gives (N := [(3, _)]) (.cons rfl (.nil _))).rn 0⟩
set_option maxRecDepth 20000 in
set_option maxHeartbeats 4000000 in
theorem wnums_any (b : Nat) (v q : Value) (l ns : List Int) (w : World) (hb : w.heap[b]? = some (.cells (List.toArray [v]) 100)) (hv : Own w v 5 1 (ints .u8 l)) (hbv : b ∉ blkOf v) (h : Rd w q 1 (ints .i64 ns)) (ho : FE.off b (.sl q 1 (ints .i64 ns))) (ho2 : ∀ x, x ∈ blkOf v → FE.off x (.sl q 1 (ints .i64 ns))) (hs : l.length + 9 * ns.length + 100 ≤ 140737488352000) : Calls Try.prog 44 #[.pointer (some ⟨b, 0, none⟩), q] w (Post (ι := Value) w (b :: blkOf v) (fun _ => True) (fun _ => .tuple #[]) (fun x => [(0, .blk (b) (.cells ([x]).toArray 100)), (1, .own (x) 5 1 (ints .u8 (l ++ Rr.nums ns)))])) := by
  refine calls_at (vs := [.pointer (some ⟨b, 0, none⟩), q]) (X := b :: blkOf v) (H := [(0, .blk (b) (.cells ([v]).toArray 100)), (1, .own (v) 5 1 (ints .u8 (l)))]) (F := [(2, .sl q 1 (ints .i64 ns))]) 47 Try.func44 rfl rfl rfl ((Sat.two 0 1 (by decide) hb hv hbv).read2 (f := .sl q 1 (ints .i64 ns)) 2 h ho ho2) ?_
  refine cd_seq ?_
  refine cd_seq ?_
  refine cd_region ?_
  refine st (ev_move rfl) rfl rfl rfl ?_
  refine st (ev_eql_ptr_nil Try.underlying134 rfl rfl) rfl rfl rfl ?_
  refine op_nil ?_
  refine ax_then ?_
  refine At.regs (L' := [(0, _), (1, _), (8, _)]) (.cons rfl (.cons rfl (.cons rfl (.nil _)))) ?_
  refine cd_false rfl ?_
  refine cd_skip ?_
  refine ax_then ?_
  refine At.regs (L' := [(0, _), (1, _)]) (.cons rfl (.cons rfl (.nil _))) ?_
  refine cd_seq ?_
  refine cd_region ?_
  refine st (ev_move rfl) rfl rfl rfl ?_
  refine st (ev_len_rdi (h := 2) Try.underlying49 rfl rfl) rfl rfl rfl ?_
  refine st (ev_move rfl) rfl rfl rfl ?_
  refine op_nil ?_
  refine ax_then ?_
  refine At.regs (L' := [(0, _), (9, _), (10, _), (11, _)]) (.cons rfl (.cons rfl (.cons rfl (.cons rfl (.nil _))))) ?_
  refine cd_block ?_
  refine at_heq (i := 1) (v' := .own (v) 5 1 (ints .u8 (l ++ Rr.nums (ns.take 0)))) rfl (by simp [Rr.nums]) ?_
  refine cd_loop (ι := Nat × Value) (fun x => x.1 ≤ ns.length) (fun x => ns.length - x.1)
      (fun x => [(0, .pointer (some ⟨b, 0, none⟩)), (9, q), (10, .int .i64 (ns.length : Nat)), (11, .int .i64 (x.1 : Int))])
      (fun x => [(0, .blk (b) (.cells ([x.2]).toArray 100)), (1, .own (x.2) 5 1 (ints .u8 (l ++ Rr.nums (ns.take x.1))))])
      (fun x => [(2, .sl q 1 (ints .i64 ns))])
      (0, v) (by omega) (.cons rfl (.cons rfl (.cons rfl (.cons rfl (.nil _))))) (.cons rfl (.cons rfl (.nil _))) (.cons rfl (.nil _)) (fun x hi => ?_)
  obtain ⟨i, u0⟩ := x
  dsimp only at hi ⊢
  have hml := Rr.nums_len (ns.take i)
  have htl : (ns.take i).length ≤ ns.length := by rw [List.length_take]; omega
  have hpl : (l ++ Rr.nums (ns.take i)).length ≤ l.length + 9 * ns.length := by rw [List.length_append]; omega
  refine cd_seq ?_
  refine cd_region ?_
  refine st (ev_lss rfl rfl) rfl rfl rfl ?_
  refine op_nil ?_
  refine ax_then ?_
  refine At.regs (L' := [(0, _), (9, _), (10, _), (11, _), (12, _)]) (.cons rfl (.cons rfl (.cons rfl (.cons rfl (.cons rfl (.nil _)))))) ?_
  refine cd_seq ?_
  refine cd_if rfl (fun hc12 => ?_) (fun hc12 => ?_)
  ·
    have hlt : i < ns.length := by omega
    refine cd_skip ?_
    refine ax_then ?_
    refine At.regs (L' := [(0, _), (9, _), (10, _), (11, _), (12, _)]) (.cons rfl (.cons rfl (.cons rfl (.cons rfl (.cons rfl (.nil _)))))) ?_
    refine cd_seq ?_
    refine cd_block ?_
    refine cd_seq ?_
    refine cd_region ?_
    refine st (ev_indexAddr_rdi (h := 2) Try.underlying49 ty3 rfl rfl rfl (by omega) (by first | omega | (simp only [List.length_append, List.length_cons, List.length_nil, List.length_set, List.length_replicate, List.length_take, List.length_drop, ints_length, wr_length, sha_len, node_len, recov_len, Ky.named_len, Ky.keyPub_len, Ky.hashOf_len] <;> omega))) rfl rfl rfl ?_
    refine st (ld_rd1 (h := 2) ty3 rfl rfl rfl (ints_get _ _ _ (by first | omega | (simp only [List.length_append, List.length_cons, List.length_nil, List.length_set, List.length_replicate, List.length_take, List.length_drop, ints_length, wr_length, sha_len, node_len, recov_len, Ky.named_len, Ky.keyPub_len, Ky.hashOf_len] <;> omega) | rfl))) rfl rfl rfl ?_
    refine at_eq (i := 14) (v' := .int .i64 (ns.getD i 0)) rfl (by rw [Int.toNat_natCast]) ?_
    have hnx : (ns.getD i 0) = ns[i]'hlt := by rw [List.getD_eq_getElem?_getD, List.getElem?_eq_getElem hlt]; rfl
    refine st (ev_assign rfl) rfl rfl rfl ?_
    refine op_nil ?_
    refine ax_then ?_
    refine At.regs (L' := [(0, _), (5, _), (9, _), (10, _), (11, _), (12, _), (13, _), (14, _)]) (.cons rfl (.cons rfl (.cons rfl (.cons rfl (.cons rfl (.cons rfl (.cons rfl (.cons rfl (.nil _))))))))) ?_
    refine cd_seq ?_
    refine cd_region ?_
    refine st (ev_move rfl) rfl rfl rfl ?_
    refine st (ev_min2 rfl rfl) rfl rfl rfl ?_
    refine st (ev_max2 rfl rfl) rfl rfl rfl ?_
    refine st (ev_convu64 Try.underlying3 Try.underlying135 rfl (by omega) (by omega)) rfl rfl rfl ?_
    refine at_eq (i := 18) (v' := .int .u64 (Rr.clampN (ns.getD i 0) : Int)) rfl (by congr 1; unfold Rr.clampN; omega) ?_
    refine st (ev_assign rfl) rfl rfl rfl ?_
    refine op_nil ?_
    refine ax_then ?_
    refine At.regs (L' := [(0, _), (5, _), (6, _), (9, _), (10, _), (11, _), (12, _), (13, _), (14, _), (15, _), (16, _), (17, _), (18, _)]) (.cons rfl (.cons rfl (.cons rfl (.cons rfl (.cons rfl (.cons rfl (.cons rfl (.cons rfl (.cons rfl (.cons rfl (.cons rfl (.cons rfl (.cons rfl (.nil _)))))))))))))) ?_
    refine cd_seq ?_
    refine cd_block ?_
    refine at_heq (i := 1) (v' := .own (u0) 5 1 (ints .u8 ((l ++ Rr.nums (ns.take i)) ++ []))) rfl (by rw [List.append_nil]) ?_
    refine cd_loop (ι := Nat × Value × List Int) (fun y => y.2.2 ++ Rr.encN y.1 = Rr.num (ns.getD i 0) ∧ y.1 ≤ 4611686018427387904) (fun y => y.1)
        (fun y => [(0, .pointer (some ⟨b, 0, none⟩)), (6, .int .u64 (y.1 : Int)), (9, q), (10, .int .i64 (ns.length : Nat)), (11, .int .i64 (i : Int))])
        (fun y => [(0, .blk (b) (.cells ([y.2.1]).toArray 100)), (1, .own (y.2.1) 5 1 (ints .u8 ((l ++ Rr.nums (ns.take i)) ++ y.2.2)))])
        (fun y => [(2, .sl q 1 (ints .i64 ns))])
        (Rr.clampN (ns.getD i 0), u0, []) (⟨rfl, Rr.clampN_le _⟩) (.cons rfl (.cons rfl (.cons rfl (.cons rfl (.cons rfl (.nil _)))))) (.cons rfl (.cons rfl (.nil _))) (.cons rfl (.nil _)) (fun y hi => ?_)
    obtain ⟨u, v, out⟩ := y
    dsimp only at hi ⊢
    have hi2 := hi.2
    have hol : out.length ≤ 9 := by
      have h1 := congrArg List.length hi.1
      rw [List.length_append] at h1
      have h2 := Rr.num_len (ns.getD i 0)
      omega
    refine cd_seq ?_
    refine cd_seq ?_
    refine cd_region ?_
    refine st (ev_move rfl) rfl rfl rfl ?_
    refine st (ev_geq rfl rfl) rfl rfl rfl ?_
    refine op_nil ?_
    refine ax_then ?_
    refine At.regs (L' := [(0, _), (6, _), (9, _), (10, _), (11, _), (19, _), (20, _)]) (.cons rfl (.cons rfl (.cons rfl (.cons rfl (.cons rfl (.cons rfl (.cons rfl (.nil _)))))))) ?_
    refine cd_if rfl (fun hc20 => ?_) (fun hc20 => ?_)
    ·
      refine cd_skip ?_
      refine ax_then ?_
      refine At.regs (L' := [(0, _), (6, _), (9, _), (10, _), (11, _), (19, _), (20, _)]) (.cons rfl (.cons rfl (.cons rfl (.cons rfl (.cons rfl (.cons rfl (.cons rfl (.nil _)))))))) ?_
      refine cd_seq ?_
      refine cd_block ?_
      refine cd_region ?_
      refine st (ev_move rfl) rfl rfl rfl ?_
      refine st (ev_move rfl) rfl rfl rfl ?_
      refine st (ev_nilCheck rfl) rfl rfl rfl ?_
      refine st (ev_fieldAddr (b := _) Try.underlying100 (f := _) rfl ty28 (by decide) rfl) rfl rfl rfl ?_
      refine st (ld_blk1 (h := 0) ty28 rfl rfl rfl rfl) rfl rfl rfl ?_
      refine st (ev_move rfl) rfl rfl rfl ?_
      refine st (ev_conv Try.underlying135 Try.underlying5 rfl) rfl rfl rfl ?_
      refine st (ev_or rfl rfl) rfl rfl rfl ?_
      refine at_eq (i := 30) (v' := .int .u8 (((u % 128 + 128 : Nat)) : Int)) rfl (by rw [Rr.lay8]) ?_
      refine st_bsi (h := 31) (xs := [_]) Try.underlying28 ty5 (by decide) rfl rfl (by decide) rfl rfl (fun b31 => ?_)
      refine st_appendi (h := 1) Try.underlying28 Try.underlying28 ty5 rfl rfl rfl rfl (fun w1 sw => sw.own_rd (h := 31) rfl) (by first | omega | (simp only [List.length_append, List.length_cons, List.length_nil, List.length_set, List.length_replicate, List.length_take, List.length_drop, ints_length, wr_length, sha_len, node_len, recov_len, Ky.named_len, Ky.keyPub_len, Ky.hashOf_len] <;> omega)) (by decide) rfl rfl (fun v32 => ?_)
      refine at_own_shape (h := 1) rfl (fun hs32 => ?_)
      refine st (ev_nilCheck rfl) rfl rfl rfl ?_
      refine st (ev_fieldAddr (b := _) Try.underlying100 (f := _) rfl ty28 (by decide) rfl) rfl rfl rfl ?_
      refine st_store1 0 ty28 rfl rfl rfl hs32.2 (show 0 < 1 from by decide) rfl ?_
      refine at_heq (i := 0) (v' := .blk (b) (.cells ([v32]).toArray 100)) rfl rfl ?_
      refine op_nil ?_
      refine ax_block ?_
      refine ax_then ?_
      refine At.regs (L' := [(0, _), (6, _), (9, _), (10, _), (11, _), (19, _), (20, _), (23, _), (24, _), (25, _), (26, _), (27, _), (28, _), (29, _), (30, _), (31, _), (32, _), (33, _), (34, _)]) (.cons rfl (.cons rfl (.cons rfl (.cons rfl (.cons rfl (.cons rfl (.cons rfl (.cons rfl (.cons rfl (.cons rfl (.cons rfl (.cons rfl (.cons rfl (.cons rfl (.cons rfl (.cons rfl (.cons rfl (.cons rfl (.cons rfl (.nil _)))))))))))))))))))) ?_
      refine cd_region ?_
      refine st (ev_move rfl) rfl rfl rfl ?_
      refine st (ev_shr rfl rfl (by omega)) rfl rfl rfl ?_
      refine at_eq (i := 22) (v' := .int .u64 ((u / 128 : Nat) : Int)) rfl (by rw [Rr.shr7]) ?_
      refine st (ev_assign rfl) rfl rfl rfl ?_
      refine op_nil ?_
      refine ax_heq (i := 1) (v' := .own (v32) 5 1 (ints .u8 ((l ++ Rr.nums (ns.take i)) ++ (out ++ [(((u % 128 + 128 : Nat)) : Int)])))) rfl (by rw [List.append_assoc]) ?_
      exact at_again ((u / 128, v32, out ++ [(((u % 128 + 128 : Nat)) : Int)])) (⟨by show (out ++ [(((u % 128 + 128 : Nat)) : Int)]) ++ Rr.encN (u / 128) = Rr.num (ns.getD i 0); rw [List.append_assoc, List.singleton_append, ← Rr.encN_ge (by omega)]; exact hi.1, by show u / 128 ≤ 4611686018427387904; omega⟩) (by show u / 128 < u; omega) (.cons rfl (.cons rfl (.cons rfl (.cons rfl (.cons rfl (.nil _)))))) (.cons rfl (.cons rfl (.nil _))) (.cons rfl (.nil _))
    ·
      refine cd_exit ?_
      refine ax_then_exit ?_
      refine ax_then_exit ?_
      refine ax_block_hit ?_
      refine ax_then ?_
      refine At.regs (L' := [(0, _), (6, _), (9, _), (10, _), (11, _), (19, _), (20, _)]) (.cons rfl (.cons rfl (.cons rfl (.cons rfl (.cons rfl (.cons rfl (.cons rfl (.nil _)))))))) ?_
      refine cd_region ?_
      refine st (ev_move rfl) rfl rfl rfl ?_
      refine st (ev_move rfl) rfl rfl rfl ?_
      refine st (ev_nilCheck rfl) rfl rfl rfl ?_
      refine st (ev_fieldAddr (b := _) Try.underlying100 (f := _) rfl ty28 (by decide) rfl) rfl rfl rfl ?_
      refine st (ld_blk1 (h := 0) ty28 rfl rfl rfl rfl) rfl rfl rfl ?_
      refine st (ev_move rfl) rfl rfl rfl ?_
      refine st (ev_conv Try.underlying135 Try.underlying5 rfl) rfl rfl rfl ?_
      refine at_eq (i := 41) (v' := .int .u8 (u : Int)) rfl (by rw [Rr.low8 (by omega)]) ?_
      refine st_bsi (h := 42) (xs := [_]) Try.underlying28 ty5 (by decide) rfl rfl (by decide) rfl rfl (fun b42 => ?_)
      refine st_appendi (h := 1) Try.underlying28 Try.underlying28 ty5 rfl rfl rfl rfl (fun w1 sw => sw.own_rd (h := 42) rfl) (by first | omega | (simp only [List.length_append, List.length_cons, List.length_nil, List.length_set, List.length_replicate, List.length_take, List.length_drop, ints_length, wr_length, sha_len, node_len, recov_len, Ky.named_len, Ky.keyPub_len, Ky.hashOf_len] <;> omega)) (by decide) rfl rfl (fun v43 => ?_)
      refine at_own_shape (h := 1) rfl (fun hs43 => ?_)
      refine st (ev_nilCheck rfl) rfl rfl rfl ?_
      refine st (ev_fieldAddr (b := _) Try.underlying100 (f := _) rfl ty28 (by decide) rfl) rfl rfl rfl ?_
      refine st_store1 0 ty28 rfl rfl rfl hs43.2 (show 0 < 1 from by decide) rfl ?_
      refine at_heq (i := 0) (v' := .blk (b) (.cells ([v43]).toArray 100)) rfl rfl ?_
      refine op_nil ?_
      refine ax_block ?_
      refine ax_then ?_
      refine At.regs (L' := [(0, _), (6, _), (9, _), (10, _), (11, _), (19, _), (20, _), (35, _), (36, _), (37, _), (38, _), (39, _), (40, _), (41, _), (42, _), (43, _), (44, _), (45, _)]) (.cons rfl (.cons rfl (.cons rfl (.cons rfl (.cons rfl (.cons rfl (.cons rfl (.cons rfl (.cons rfl (.cons rfl (.cons rfl (.cons rfl (.cons rfl (.cons rfl (.cons rfl (.cons rfl (.cons rfl (.cons rfl (.nil _))))))))))))))))))) ?_
      refine cd_region ?_
      refine st (ev_add64 rfl rfl (by omega) (by omega)) rfl rfl rfl ?_
      refine st (ev_move rfl) rfl rfl rfl ?_
      refine op_nil ?_
      refine ax_heq (i := 1) (v' := .own (v43) 5 1 (ints .u8 (l ++ Rr.nums (ns.take (i + 1))))) rfl (by rw [List.take_succ_eq_append_getElem hlt, Rr.nums_snoc, ← hnx, ← hi.1, Rr.encN_lt (by omega)]; simp only [List.append_assoc]) ?_
      exact at_again ((i + 1, v43)) (by show i + 1 ≤ ns.length; omega) (by omega) (.cons rfl (.cons rfl (.cons rfl (.cons rfl (.nil _))))) (.cons rfl (.cons rfl (.nil _))) (.cons rfl (.nil _))
  ·
    obtain rfl : i = ns.length := by omega
    refine at_heq (i := 1) (v' := .own (u0) 5 1 (ints .u8 (l ++ Rr.nums ns))) rfl (by rw [List.take_length]) ?_
    refine cd_exit ?_
    refine ax_then_exit ?_
    refine ax_then_exit ?_
    refine ax_block_hit ?_
    refine rt_none (.inr rfl) Try.results44 ?_
    exact fun w1 sw => ⟨u0, trivial, rfl, sw.gives (N := [(0, _), (1, _)]) (.cons rfl (.cons rfl (.nil _)))⟩
end Go.Proofs.Ytgfnmolbagilmaa

namespace Go.Proofs.Ytgfnmolbagilmaa
open Go Go.RowKit Fw
open Sha
open Ots
open Mk
set_option linter.unusedVariables false
set_option linter.unusedSimpArgs false
set_option maxRecDepth 20000 in
set_option maxHeartbeats 8000000 in
theorem qrnum_g (b : Nat) (rv : Value) (bad : Bool) (r : List Int) (w : World) (hb : w.heap[b]? = some (.cells (List.toArray [rv, .bool bad]) 112)) (h : Rd w rv 1 (ints .u8 r)) (ho : FE.off b (.sl rv 1 (ints .u8 r))) (hr : r.length ≤ 140737488352000) (he : bad = true → r = []) (hB : Byt r) : Calls Try.prog 53 #[.pointer (some ⟨b, 0, none⟩)] w (Post (ι := Value) w [b] (fun x => Rr.Und rv r x (Rr.nRest r)) (fun _ => .int .i64 (Rr.nVal r)) (fun x => [(0, .blk (b) (.cells ([x, .bool (bad || Rr.nBad r)]).toArray 112))])) := by
  refine calls_at (vs := [.pointer (some ⟨b, 0, none⟩)]) (X := [b]) (H := [(0, .blk (b) (.cells ([rv, .bool (bad)]).toArray 112))]) (F := [(1, .sl rv 1 (ints .u8 r))]) 57 Try.func53 rfl rfl rfl ((Sat.blkX 0 hb).readb (f := .sl rv 1 (ints .u8 r)) 1 h ho) ?_
  refine cd_seq ?_
  refine cd_region ?_
  refine st (ev_assign rfl) rfl rfl rfl ?_
  refine op_nil ?_
  refine ax_then ?_
  refine At.regs (L' := [(0, _), (2, _)]) (.cons rfl (.cons rfl (.nil _))) ?_
  refine cd_seq ?_
  refine cd_region ?_
  refine st (ev_assign rfl) rfl rfl rfl ?_
  refine op_nil ?_
  refine ax_then ?_
  refine At.regs (L' := [(0, _), (2, _), (3, _)]) (.cons rfl (.cons rfl (.cons rfl (.nil _)))) ?_
  refine cd_seq ?_
  refine cd_seq ?_
  refine cd_region ?_
  refine st (ev_assign rfl) rfl rfl rfl ?_
  refine op_nil ?_
  refine ax_then ?_
  refine At.regs (L' := [(0, _), (2, _), (3, _), (4, _)]) (.cons rfl (.cons rfl (.cons rfl (.cons rfl (.nil _))))) ?_
  refine cd_block ?_
  refine cd_loop (ι := Nat × Int × Value × List Int) (fun x => x.1 ≤ 10 ∧ Rr.numG x.1 x.2.1 x.2.2.2 = Rr.numS r ∧ Rr.Und rv r x.2.2.1 x.2.2.2 ∧ (bad = true → x.2.2.2 = []) ∧ x.2.2.2 = r.drop x.1) (fun x => 10 - x.1)
      (fun x => [(0, .pointer (some ⟨b, 0, none⟩)), (3, .int .u64 x.2.1), (4, .int .i64 (x.1 : Int))])
      (fun x => [(0, .blk (b) (.cells ([x.2.2.1, .bool (bad)]).toArray 112))])
      (fun x => [(1, .sl x.2.2.1 1 (ints .u8 x.2.2.2))])
      (0, 0, rv, r) (⟨by omega, rfl, Rr.Und.refl rv r, he, rfl⟩) (.cons rfl (.cons rfl (.cons rfl (.nil _)))) (.cons rfl (.nil _)) (.cons rfl (.nil _)) (fun x hi => ?_)
  obtain ⟨i, u, vc, rc⟩ := x
  dsimp only at hi ⊢
  have hi1 := hi.1
  have hrl := hi.2.2.1.len
  refine cd_seq ?_
  refine cd_seq ?_
  refine cd_region ?_
  refine st (ev_move rfl) rfl rfl rfl ?_
  refine st (ev_lss rfl rfl) rfl rfl rfl ?_
  refine op_nil ?_
  refine ax_then ?_
  refine At.regs (L' := [(0, _), (3, _), (4, _), (7, _), (8, _)]) (.cons rfl (.cons rfl (.cons rfl (.cons rfl (.cons rfl (.nil _)))))) ?_
  refine cd_if rfl (fun hc8 => ?_) (fun hc8 => ?_)
  ·
    refine cd_skip ?_
    refine ax_then ?_
    refine At.regs (L' := [(0, _), (3, _), (4, _), (7, _), (8, _)]) (.cons rfl (.cons rfl (.cons rfl (.cons rfl (.cons rfl (.nil _)))))) ?_
    refine cd_seq ?_
    refine cd_block ?_
    refine cd_seq ?_
    refine cd_region ?_
    refine st (ev_move rfl) rfl rfl rfl ?_
    refine st_call has83 rfl (fun w1 sw => rn2 0 12 (qraw_g b vc bad rc w1 (sw.blk_eq (h := 0) rfl) (sw.sl_rd (h := 1) rfl) (sw.off 1 _ 0 _ rfl rfl _ (by simp [Ent.ids])) (by omega) hi.2.2.2.1 1)) (mod_blk2 rfl) rfl rfl (fun x12 hx12 => ?_)
    obtain ⟨vd, vo⟩ := x12
    dsimp only at hx12 ⊢
    refine at_fmap (h := 1) 1 rfl (fun w1 hh => hx12.rd w1 hh) hx12.blk hx12.nil ?_
    refine st (ev_assign rfl) rfl rfl rfl ?_
    refine op_nil ?_
    refine ax_then ?_
    refine At.regs (L' := [(0, _), (3, _), (4, _), (5, _), (7, _), (8, _), (11, _), (12, _)]) (.cons rfl (.cons rfl (.cons rfl (.cons rfl (.cons rfl (.cons rfl (.cons rfl (.cons rfl (.nil _))))))))) ?_
    refine cd_seq ?_
    refine cd_seq ?_
    refine cd_region ?_
    refine st (ev_move rfl) rfl rfl rfl ?_
    refine st (ev_nilCheck rfl) rfl rfl rfl ?_
    refine st (ev_fieldAddr (b := _) Try.underlying112 (f := _) rfl ty4 (by decide) rfl) rfl rfl rfl ?_
    refine st (ld_blk1 (h := 0) ty4 rfl rfl rfl rfl) rfl rfl rfl ?_
    refine op_nil ?_
    refine ax_then ?_
    refine At.regs (L' := [(0, _), (3, _), (4, _), (5, _), (7, _), (8, _), (11, _), (12, _), (13, _), (14, _), (15, _), (16, _)]) (.cons rfl (.cons rfl (.cons rfl (.cons rfl (.cons rfl (.cons rfl (.cons rfl (.cons rfl (.cons rfl (.cons rfl (.cons rfl (.cons rfl (.nil _))))))))))))) ?_
    refine cd_cond rfl (fun hc16 => ?_) (fun hc16 => ?_)
    ·
      refine cd_seq ?_
      refine cd_region ?_
      refine st (ev_assign rfl) rfl rfl rfl ?_
      refine op_nil ?_
      refine ax_then ?_
      refine At.regs (L' := [(0, _), (2, _), (3, _), (4, _), (5, _), (7, _), (8, _), (11, _), (12, _), (13, _), (14, _), (15, _), (16, _)]) (.cons rfl (.cons rfl (.cons rfl (.cons rfl (.cons rfl (.cons rfl (.cons rfl (.cons rfl (.cons rfl (.cons rfl (.cons rfl (.cons rfl (.cons rfl (.nil _)))))))))))))) ?_
      refine cd_ret ?_
      refine ax_then_ret ?_
      refine ax_block_ret ?_
      refine ax_then_ret ?_
      refine ax_then_ret ?_
      refine ax_block_ret ?_
      refine ax_then_ret ?_
      refine rt_tmp (.inl rfl) Try.results53 rfl ?_
      first
      | (have hrc : rc = [] := by
           cases hbb : bad with
           | true => exact hi.2.2.2.1 hbb
           | false => rw [hbb] at hc16; exact Rr.rBad_1 hc16
         have hnone : Rr.numS r = none := by rw [← hi.2.1, hrc]; rfl
         exact fun w1 sw => ⟨vd, by rw [(Rr.nVal_no hnone).2.2, ← show Rr.rRest rc 1 = [] from by rw [hrc]; decide]; exact hi.2.2.1.trans hx12, by rw [(Rr.nVal_no hnone).1], by rw [(Rr.nVal_no hnone).2.1, Bool.or_true, ← hc16]; exact sw.gives (N := [(0, _)]) (.cons rfl (.nil _))⟩)
      | (exact fun w1 sw => ⟨vd, by rw [(Rr.nVal_ok hs).2.2, show r.drop (i + 1) = Rr.rRest (c :: t) 1 from by rw [hraw.2.1, ← htl]]; exact hi.2.2.1.trans hx12, by rw [(Rr.nVal_ok hs).1], by rw [(Rr.nVal_ok hs).2.1, Bool.or_false]; exact sw.gives (N := [(0, _)]) (.cons rfl (.nil _))⟩)
      | (have hnone : Rr.numS r = none := by
           rw [← hi.2.1]
           first
           | exact Rr.numG_brk (by omega)
           | exact Rr.numG_big (by omega) (by omega)
           | (rw [show i = 10 by omega]; exact Rr.numG_ten)
         exact fun w1 sw => ⟨Ky.nil0, Rr.nUnd_no rv hnone, by rw [(Rr.nVal_no hnone).1], by rw [(Rr.nVal_no hnone).2.1, Bool.or_true]; exact sw.gives (N := [(0, _)]) (.cons rfl (.nil _))⟩)
    ·
      have hnb : ¬ Rr.rBad rc 1 = true := fun hh => by rw [hh, Bool.or_true] at hc16; cases hc16
      obtain ⟨c, t, rfl⟩ := Rr.rBad_cons hnb
      have hraw := Rr.rOut_1 c t
      have hcB := (hi.2.2.1.byt hB) c (by simp)
      have htl : t = r.drop (i + 1) := by
        have h1 := congrArg List.tail hi.2.2.2.2
        simpa using h1
      refine at_heq (i := 0) (v' := .blk (b) (.cells ([vd, .bool (bad)]).toArray 112)) rfl (by rw [hraw.2.2, Bool.or_false]) ?_
      refine at_heq (i := 12) (v' := .own (vo) 5 1 (ints .u8 ([c]))) rfl (by rw [hraw.1]) ?_
      refine cd_skip ?_
      refine ax_then ?_
      refine At.regs (L' := [(0, _), (3, _), (4, _), (5, _), (7, _), (8, _), (11, _), (12, _), (13, _), (14, _), (15, _), (16, _)]) (.cons rfl (.cons rfl (.cons rfl (.cons rfl (.cons rfl (.cons rfl (.cons rfl (.cons rfl (.cons rfl (.cons rfl (.cons rfl (.cons rfl (.nil _))))))))))))) ?_
      refine cd_seq ?_
      refine cd_region ?_
      refine st (ev_move rfl) rfl rfl rfl ?_
      refine st (ev_indexAddr_owni (h := 12) Try.underlying28 ty5 rfl rfl rfl (by omega) (by first | omega | (simp only [List.length_append, List.length_cons, List.length_nil, List.length_set, List.length_replicate, List.length_take, List.length_drop, ints_length, wr_length, sha_len, node_len, recov_len, Ky.named_len, Ky.keyPub_len, Ky.hashOf_len] <;> omega))) rfl rfl rfl ?_
      refine st (ld_own1 (h := 12) ty5 rfl rfl rfl (ints_get _ _ _ (by first | omega | (simp only [List.length_append, List.length_cons, List.length_nil, List.length_set, List.length_replicate, List.length_take, List.length_drop, ints_length, wr_length, sha_len, node_len, recov_len, Ky.named_len, Ky.keyPub_len, Ky.hashOf_len] <;> omega) | rfl))) rfl rfl rfl ?_
      refine at_eq (i := 19) (v' := .int .u8 c) rfl rfl ?_
      refine st (ev_assign rfl) rfl rfl rfl ?_
      refine op_nil ?_
      refine ax_then ?_
      refine At.regs (L' := [(0, _), (3, _), (4, _), (5, _), (6, _), (7, _), (8, _), (11, _), (12, _), (13, _), (14, _), (15, _), (16, _), (17, _), (18, _), (19, _)]) (.cons rfl (.cons rfl (.cons rfl (.cons rfl (.cons rfl (.cons rfl (.cons rfl (.cons rfl (.cons rfl (.cons rfl (.cons rfl (.cons rfl (.cons rfl (.cons rfl (.cons rfl (.cons rfl (.nil _))))))))))))))))) ?_
      refine cd_seq ?_
      refine cd_seq ?_
      refine cd_region ?_
      refine st (ev_move rfl) rfl rfl rfl ?_
      refine st (ev_eql rfl rfl) rfl rfl rfl ?_
      refine st (ev_move rfl) rfl rfl rfl ?_
      refine at_split_if (i := 22) rfl (fun hg22 => ?_) (fun hg22 => ?_)
      ·
        refine st (ev_move rfl) rfl rfl rfl ?_
        refine st (ev_gtr rfl rfl) rfl rfl rfl ?_
        refine st (ev_pick_t rfl rfl) rfl rfl rfl ?_
        refine op_nil ?_
        refine ax_then ?_
        refine At.regs (L' := [(0, _), (3, _), (4, _), (5, _), (6, _), (7, _), (8, _), (11, _), (12, _), (13, _), (14, _), (15, _), (16, _), (17, _), (18, _), (19, _), (20, _), (21, _), (22, _), (23, _), (24, _), (25, _)]) (.cons rfl (.cons rfl (.cons rfl (.cons rfl (.cons rfl (.cons rfl (.cons rfl (.cons rfl (.cons rfl (.cons rfl (.cons rfl (.cons rfl (.cons rfl (.cons rfl (.cons rfl (.cons rfl (.cons rfl (.cons rfl (.cons rfl (.cons rfl (.cons rfl (.cons rfl (.nil _))))))))))))))))))))))) ?_
        refine cd_if rfl (fun hc25 => ?_) (fun hc25 => ?_)
        ·
          refine cd_exit ?_
          refine ax_then_exit ?_
          refine ax_block_miss (by decide) ?_
          refine ax_then_exit ?_
          refine ax_then_exit ?_
          refine ax_block_hit ?_
          refine ax_then ?_
          refine At.regs (L' := [(0, _)]) (.cons rfl (.nil _)) ?_
          refine cd_seq ?_
          refine cd_region ?_
          refine st (ev_move rfl) rfl rfl rfl ?_
          refine st_call has84 rfl (fun w1 sw => qbad_any b _ _ w1 (sw.blk_eq (h := 0) rfl)) (mod_blk rfl) rfl rfl (fun _ _ => ?_)
          refine op_nil ?_
          refine ax_then ?_
          refine At.regs (L' := []) (.nil _) ?_
          refine cd_seq ?_
          refine cd_region ?_
          refine st (ev_assign rfl) rfl rfl rfl ?_
          refine op_nil ?_
          refine ax_then ?_
          refine At.regs (L' := [(2, _)]) (.cons rfl (.nil _)) ?_
          refine cd_ret ?_
          refine rt_tmp (.inl rfl) Try.results53 rfl ?_
          first
          | (have hrc : rc = [] := by
               cases hbb : bad with
               | true => exact hi.2.2.2.1 hbb
               | false => rw [hbb] at hc16; exact Rr.rBad_1 hc16
             have hnone : Rr.numS r = none := by rw [← hi.2.1, hrc]; rfl
             exact fun w1 sw => ⟨vd, by rw [(Rr.nVal_no hnone).2.2, ← show Rr.rRest rc 1 = [] from by rw [hrc]; decide]; exact hi.2.2.1.trans hx12, by rw [(Rr.nVal_no hnone).1], by rw [(Rr.nVal_no hnone).2.1, Bool.or_true, ← hc16]; exact sw.gives (N := [(0, _)]) (.cons rfl (.nil _))⟩)
          | (exact fun w1 sw => ⟨vd, by rw [(Rr.nVal_ok hs).2.2, show r.drop (i + 1) = Rr.rRest (c :: t) 1 from by rw [hraw.2.1, ← htl]]; exact hi.2.2.1.trans hx12, by rw [(Rr.nVal_ok hs).1], by rw [(Rr.nVal_ok hs).2.1, Bool.or_false]; exact sw.gives (N := [(0, _)]) (.cons rfl (.nil _))⟩)
          | (have hnone : Rr.numS r = none := by
               rw [← hi.2.1]
               first
               | exact Rr.numG_brk (by omega)
               | exact Rr.numG_big (by omega) (by omega)
               | (rw [show i = 10 by omega]; exact Rr.numG_ten)
             exact fun w1 sw => ⟨Ky.nil0, Rr.nUnd_no rv hnone, by rw [(Rr.nVal_no hnone).1], by rw [(Rr.nVal_no hnone).2.1, Bool.or_true]; exact sw.gives (N := [(0, _)]) (.cons rfl (.nil _))⟩)
        ·
          refine cd_skip ?_
          refine ax_then ?_
          refine At.regs (L' := [(0, _), (3, _), (4, _), (5, _), (6, _), (7, _), (8, _), (11, _), (12, _), (13, _), (14, _), (15, _), (16, _), (17, _), (18, _), (19, _), (20, _), (21, _), (22, _), (23, _), (24, _), (25, _)]) (.cons rfl (.cons rfl (.cons rfl (.cons rfl (.cons rfl (.cons rfl (.cons rfl (.cons rfl (.cons rfl (.cons rfl (.cons rfl (.cons rfl (.cons rfl (.cons rfl (.cons rfl (.cons rfl (.cons rfl (.cons rfl (.cons rfl (.cons rfl (.cons rfl (.cons rfl (.nil _))))))))))))))))))))))) ?_
          refine cd_seq ?_
          refine cd_seq ?_
          refine cd_region ?_
          refine st (ev_move rfl) rfl rfl rfl ?_
          refine st (ev_eql rfl rfl) rfl rfl rfl ?_
          refine st (ev_move rfl) rfl rfl rfl ?_
          refine at_eq (i := 28) (v' := .bool true) rfl (by simp only [Value.bool.injEq, decide_eq_true_eq, decide_eq_false_iff_not]; exact hg22) ?_
          refine st (ev_move rfl) rfl rfl rfl ?_
          refine st (ev_gtr rfl rfl) rfl rfl rfl ?_
          refine st (ev_pick_t rfl rfl) rfl rfl rfl ?_
          refine op_nil ?_
          refine ax_then ?_
          refine At.regs (L' := [(0, _), (3, _), (4, _), (5, _), (6, _), (7, _), (8, _), (11, _), (12, _), (13, _), (14, _), (15, _), (16, _), (17, _), (18, _), (19, _), (20, _), (21, _), (22, _), (23, _), (24, _), (25, _), (26, _), (27, _), (28, _), (29, _), (30, _), (31, _)]) (.cons rfl (.cons rfl (.cons rfl (.cons rfl (.cons rfl (.cons rfl (.cons rfl (.cons rfl (.cons rfl (.cons rfl (.cons rfl (.cons rfl (.cons rfl (.cons rfl (.cons rfl (.cons rfl (.cons rfl (.cons rfl (.cons rfl (.cons rfl (.cons rfl (.cons rfl (.cons rfl (.cons rfl (.cons rfl (.cons rfl (.cons rfl (.cons rfl (.nil _))))))))))))))))))))))))))))) ?_
          refine cd_if rfl (fun hc31 => ?_) (fun hc31 => ?_)
          ·
            refine cd_exit ?_
            refine ax_then_exit ?_
            refine ax_block_miss (by decide) ?_
            refine ax_then_exit ?_
            refine ax_then_exit ?_
            refine ax_block_hit ?_
            refine ax_then ?_
            refine At.regs (L' := [(0, _)]) (.cons rfl (.nil _)) ?_
            refine cd_seq ?_
            refine cd_region ?_
            refine st (ev_move rfl) rfl rfl rfl ?_
            refine st_call has84 rfl (fun w1 sw => qbad_any b _ _ w1 (sw.blk_eq (h := 0) rfl)) (mod_blk rfl) rfl rfl (fun _ _ => ?_)
            refine op_nil ?_
            refine ax_then ?_
            refine At.regs (L' := []) (.nil _) ?_
            refine cd_seq ?_
            refine cd_region ?_
            refine st (ev_assign rfl) rfl rfl rfl ?_
            refine op_nil ?_
            refine ax_then ?_
            refine At.regs (L' := [(2, _)]) (.cons rfl (.nil _)) ?_
            refine cd_ret ?_
            refine rt_tmp (.inl rfl) Try.results53 rfl ?_
            first
            | (have hrc : rc = [] := by
                 cases hbb : bad with
                 | true => exact hi.2.2.2.1 hbb
                 | false => rw [hbb] at hc16; exact Rr.rBad_1 hc16
               have hnone : Rr.numS r = none := by rw [← hi.2.1, hrc]; rfl
               exact fun w1 sw => ⟨vd, by rw [(Rr.nVal_no hnone).2.2, ← show Rr.rRest rc 1 = [] from by rw [hrc]; decide]; exact hi.2.2.1.trans hx12, by rw [(Rr.nVal_no hnone).1], by rw [(Rr.nVal_no hnone).2.1, Bool.or_true, ← hc16]; exact sw.gives (N := [(0, _)]) (.cons rfl (.nil _))⟩)
            | (exact fun w1 sw => ⟨vd, by rw [(Rr.nVal_ok hs).2.2, show r.drop (i + 1) = Rr.rRest (c :: t) 1 from by rw [hraw.2.1, ← htl]]; exact hi.2.2.1.trans hx12, by rw [(Rr.nVal_ok hs).1], by rw [(Rr.nVal_ok hs).2.1, Bool.or_false]; exact sw.gives (N := [(0, _)]) (.cons rfl (.nil _))⟩)
            | (have hnone : Rr.numS r = none := by
                 rw [← hi.2.1]
                 first
                 | exact Rr.numG_brk (by omega)
                 | exact Rr.numG_big (by omega) (by omega)
                 | (rw [show i = 10 by omega]; exact Rr.numG_ten)
               exact fun w1 sw => ⟨Ky.nil0, Rr.nUnd_no rv hnone, by rw [(Rr.nVal_no hnone).1], by rw [(Rr.nVal_no hnone).2.1, Bool.or_true]; exact sw.gives (N := [(0, _)]) (.cons rfl (.nil _))⟩)
          ·
            refine cd_skip ?_
            refine ax_then ?_
            refine At.regs (L' := [(0, _), (3, _), (4, _), (5, _), (6, _), (7, _), (8, _), (11, _), (12, _), (13, _), (14, _), (15, _), (16, _), (17, _), (18, _), (19, _), (20, _), (21, _), (22, _), (23, _), (24, _), (25, _), (26, _), (27, _), (28, _), (29, _), (30, _), (31, _)]) (.cons rfl (.cons rfl (.cons rfl (.cons rfl (.cons rfl (.cons rfl (.cons rfl (.cons rfl (.cons rfl (.cons rfl (.cons rfl (.cons rfl (.cons rfl (.cons rfl (.cons rfl (.cons rfl (.cons rfl (.cons rfl (.cons rfl (.cons rfl (.cons rfl (.cons rfl (.cons rfl (.cons rfl (.cons rfl (.cons rfl (.cons rfl (.cons rfl (.nil _))))))))))))))))))))))))))))) ?_
            refine cd_seq ?_
            refine cd_region ?_
            refine st (ev_move rfl) rfl rfl rfl ?_
            refine st (ev_move rfl) rfl rfl rfl ?_
            refine st (ev_and rfl rfl) rfl rfl rfl ?_
            refine st (ev_conv Try.underlying5 Try.underlying135 rfl) rfl rfl rfl ?_
            refine st (ev_move rfl) rfl rfl rfl ?_
            refine st (ev_mul64 rfl rfl (by omega) (by omega)) rfl rfl rfl ?_
            refine st (ev_convu64 Try.underlying3 Try.underlying136 rfl (by omega) (by omega)) rfl rfl rfl ?_
            refine st (ev_shl rfl rfl (by omega)) rfl rfl rfl ?_
            refine st (ev_or rfl rfl) rfl rfl rfl ?_
            refine at_eq (i := 40) (v' := .int .u64 (Rr.acc u c i)) rfl rfl ?_
            have hap := Rr.acc_pos u c i
            refine st (ev_assign rfl) rfl rfl rfl ?_
            refine op_nil ?_
            refine ax_then ?_
            refine At.regs (L' := [(0, _), (3, _), (4, _), (5, _), (6, _), (7, _), (8, _), (11, _), (12, _), (13, _), (14, _), (15, _), (16, _), (17, _), (18, _), (19, _), (20, _), (21, _), (22, _), (23, _), (24, _), (25, _), (26, _), (27, _), (28, _), (29, _), (30, _), (31, _), (32, _), (33, _), (34, _), (35, _), (36, _), (37, _), (38, _), (39, _), (40, _)]) (.cons rfl (.cons rfl (.cons rfl (.cons rfl (.cons rfl (.cons rfl (.cons rfl (.cons rfl (.cons rfl (.cons rfl (.cons rfl (.cons rfl (.cons rfl (.cons rfl (.cons rfl (.cons rfl (.cons rfl (.cons rfl (.cons rfl (.cons rfl (.cons rfl (.cons rfl (.cons rfl (.cons rfl (.cons rfl (.cons rfl (.cons rfl (.cons rfl (.cons rfl (.cons rfl (.cons rfl (.cons rfl (.cons rfl (.cons rfl (.cons rfl (.cons rfl (.cons rfl (.nil _)))))))))))))))))))))))))))))))))))))) ?_
            refine cd_seq ?_
            refine cd_seq ?_
            refine cd_region ?_
            refine st (ev_move rfl) rfl rfl rfl ?_
            refine st (ev_gtr rfl rfl) rfl rfl rfl ?_
            refine op_nil ?_
            refine ax_then ?_
            refine At.regs (L' := [(0, _), (3, _), (4, _), (5, _), (6, _), (7, _), (8, _), (11, _), (12, _), (13, _), (14, _), (15, _), (16, _), (17, _), (18, _), (19, _), (20, _), (21, _), (22, _), (23, _), (24, _), (25, _), (26, _), (27, _), (28, _), (29, _), (30, _), (31, _), (32, _), (33, _), (34, _), (35, _), (36, _), (37, _), (38, _), (39, _), (40, _), (41, _), (42, _)]) (.cons rfl (.cons rfl (.cons rfl (.cons rfl (.cons rfl (.cons rfl (.cons rfl (.cons rfl (.cons rfl (.cons rfl (.cons rfl (.cons rfl (.cons rfl (.cons rfl (.cons rfl (.cons rfl (.cons rfl (.cons rfl (.cons rfl (.cons rfl (.cons rfl (.cons rfl (.cons rfl (.cons rfl (.cons rfl (.cons rfl (.cons rfl (.cons rfl (.cons rfl (.cons rfl (.cons rfl (.cons rfl (.cons rfl (.cons rfl (.cons rfl (.cons rfl (.cons rfl (.cons rfl (.cons rfl (.nil _)))))))))))))))))))))))))))))))))))))))) ?_
            refine cd_if rfl (fun hc42 => ?_) (fun hc42 => ?_)
            ·
              refine cd_exit ?_
              refine ax_then_exit ?_
              refine ax_block_hit ?_
              refine ax_then ?_
              refine At.regs (L' := [(0, _), (3, _), (4, _), (5, _), (6, _), (7, _), (8, _), (11, _), (12, _), (13, _), (14, _), (15, _), (16, _), (17, _), (18, _), (19, _), (20, _), (21, _), (22, _), (23, _), (24, _), (25, _), (26, _), (27, _), (28, _), (29, _), (30, _), (31, _), (32, _), (33, _), (34, _), (35, _), (36, _), (37, _), (38, _), (39, _), (40, _), (41, _), (42, _)]) (.cons rfl (.cons rfl (.cons rfl (.cons rfl (.cons rfl (.cons rfl (.cons rfl (.cons rfl (.cons rfl (.cons rfl (.cons rfl (.cons rfl (.cons rfl (.cons rfl (.cons rfl (.cons rfl (.cons rfl (.cons rfl (.cons rfl (.cons rfl (.cons rfl (.cons rfl (.cons rfl (.cons rfl (.cons rfl (.cons rfl (.cons rfl (.cons rfl (.cons rfl (.cons rfl (.cons rfl (.cons rfl (.cons rfl (.cons rfl (.cons rfl (.cons rfl (.cons rfl (.cons rfl (.cons rfl (.nil _)))))))))))))))))))))))))))))))))))))))) ?_
              refine cd_region ?_
              refine st (ev_move rfl) rfl rfl rfl ?_
              refine st (ev_add64 rfl rfl (by omega) (by omega)) rfl rfl rfl ?_
              refine st (ev_assign rfl) rfl rfl rfl ?_
              refine op_nil ?_
              exact at_again ((i + 1, Rr.acc u c i, vd, Rr.rRest (c :: t) 1)) (⟨by show i + 1 ≤ 10; omega, by show Rr.numG (i + 1) (Rr.acc u c i) (Rr.rRest (c :: t) 1) = Rr.numS r; rw [hraw.2.1, ← Rr.numG_go (by omega) (by omega)]; exact hi.2.1, hi.2.2.1.trans hx12, fun hb2 => (hi.2.2.2.1 hb2 |> fun hh => by cases hh), by show Rr.rRest (c :: t) 1 = r.drop (i + 1); rw [hraw.2.1]; exact htl⟩) (by omega) (.cons rfl (.cons rfl (.cons rfl (.nil _)))) (.cons rfl (.nil _)) (.cons rfl (.nil _))
            ·
              refine cd_skip ?_
              refine ax_then ?_
              refine At.regs (L' := [(0, _), (3, _), (4, _), (5, _), (6, _), (7, _), (8, _), (11, _), (12, _), (13, _), (14, _), (15, _), (16, _), (17, _), (18, _), (19, _), (20, _), (21, _), (22, _), (23, _), (24, _), (25, _), (26, _), (27, _), (28, _), (29, _), (30, _), (31, _), (32, _), (33, _), (34, _), (35, _), (36, _), (37, _), (38, _), (39, _), (40, _), (41, _), (42, _)]) (.cons rfl (.cons rfl (.cons rfl (.cons rfl (.cons rfl (.cons rfl (.cons rfl (.cons rfl (.cons rfl (.cons rfl (.cons rfl (.cons rfl (.cons rfl (.cons rfl (.cons rfl (.cons rfl (.cons rfl (.cons rfl (.cons rfl (.cons rfl (.cons rfl (.cons rfl (.cons rfl (.cons rfl (.cons rfl (.cons rfl (.cons rfl (.cons rfl (.cons rfl (.cons rfl (.cons rfl (.cons rfl (.cons rfl (.cons rfl (.cons rfl (.cons rfl (.cons rfl (.cons rfl (.cons rfl (.nil _)))))))))))))))))))))))))))))))))))))))) ?_
              refine cd_seq ?_
              refine cd_seq ?_
              refine cd_region ?_
              refine st (ev_move rfl) rfl rfl rfl ?_
              refine st (ev_gtr rfl rfl) rfl rfl rfl ?_
              refine st (ev_move rfl) rfl rfl rfl ?_
              refine at_split_if (i := 45) rfl (fun hg45 => ?_) (fun hg45 => ?_)
              ·
                refine st (ev_move rfl) rfl rfl rfl ?_
                refine st (ev_eql rfl rfl) rfl rfl rfl ?_
                refine st (ev_pick_t rfl rfl) rfl rfl rfl ?_
                refine st (ev_move rfl) rfl rfl rfl ?_
                refine at_split_if (i := 49) rfl (fun hg49 => ?_) (fun hg49 => ?_)
                ·
                  refine st_skip rfl rfl rfl ?_
                  refine st_skip rfl rfl rfl ?_
                  refine st (ev_pick_t rfl rfl) rfl rfl rfl ?_
                  refine op_nil ?_
                  refine ax_then ?_
                  refine At.regs (L' := [(0, _), (3, _), (4, _), (5, _), (6, _), (7, _), (8, _), (11, _), (12, _), (13, _), (14, _), (15, _), (16, _), (17, _), (18, _), (19, _), (20, _), (21, _), (22, _), (23, _), (24, _), (25, _), (26, _), (27, _), (28, _), (29, _), (30, _), (31, _), (32, _), (33, _), (34, _), (35, _), (36, _), (37, _), (38, _), (39, _), (40, _), (41, _), (42, _), (43, _), (44, _), (45, _), (46, _), (47, _), (48, _), (49, _), (50, _), (51, _), (52, _)]) (.cons rfl (.cons rfl (.cons rfl (.cons rfl (.cons rfl (.cons rfl (.cons rfl (.cons rfl (.cons rfl (.cons rfl (.cons rfl (.cons rfl (.cons rfl (.cons rfl (.cons rfl (.cons rfl (.cons rfl (.cons rfl (.cons rfl (.cons rfl (.cons rfl (.cons rfl (.cons rfl (.cons rfl (.cons rfl (.cons rfl (.cons rfl (.cons rfl (.cons rfl (.cons rfl (.cons rfl (.cons rfl (.cons rfl (.cons rfl (.cons rfl (.cons rfl (.cons rfl (.cons rfl (.cons rfl (.cons rfl (.cons rfl (.cons rfl (.cons rfl (.cons rfl (.cons rfl (.cons rfl (.cons rfl (.cons rfl (.cons rfl (.nil _)))))))))))))))))))))))))))))))))))))))))))))))))) ?_
                  refine cd_true rfl ?_
                  refine cd_exit ?_
                  refine ax_then_exit ?_
                  refine ax_block_miss (by decide) ?_
                  refine ax_then_exit ?_
                  refine ax_then_exit ?_
                  refine ax_block_hit ?_
                  refine ax_then ?_
                  refine At.regs (L' := [(0, _)]) (.cons rfl (.nil _)) ?_
                  refine cd_seq ?_
                  refine cd_region ?_
                  refine st (ev_move rfl) rfl rfl rfl ?_
                  refine st_call has84 rfl (fun w1 sw => qbad_any b _ _ w1 (sw.blk_eq (h := 0) rfl)) (mod_blk rfl) rfl rfl (fun _ _ => ?_)
                  refine op_nil ?_
                  refine ax_then ?_
                  refine At.regs (L' := []) (.nil _) ?_
                  refine cd_seq ?_
                  refine cd_region ?_
                  refine st (ev_assign rfl) rfl rfl rfl ?_
                  refine op_nil ?_
                  refine ax_then ?_
                  refine At.regs (L' := [(2, _)]) (.cons rfl (.nil _)) ?_
                  refine cd_ret ?_
                  refine rt_tmp (.inl rfl) Try.results53 rfl ?_
                  first
                  | (have hrc : rc = [] := by
                       cases hbb : bad with
                       | true => exact hi.2.2.2.1 hbb
                       | false => rw [hbb] at hc16; exact Rr.rBad_1 hc16
                     have hnone : Rr.numS r = none := by rw [← hi.2.1, hrc]; rfl
                     exact fun w1 sw => ⟨vd, by rw [(Rr.nVal_no hnone).2.2, ← show Rr.rRest rc 1 = [] from by rw [hrc]; decide]; exact hi.2.2.1.trans hx12, by rw [(Rr.nVal_no hnone).1], by rw [(Rr.nVal_no hnone).2.1, Bool.or_true, ← hc16]; exact sw.gives (N := [(0, _)]) (.cons rfl (.nil _))⟩)
                  | (exact fun w1 sw => ⟨vd, by rw [(Rr.nVal_ok hs).2.2, show r.drop (i + 1) = Rr.rRest (c :: t) 1 from by rw [hraw.2.1, ← htl]]; exact hi.2.2.1.trans hx12, by rw [(Rr.nVal_ok hs).1], by rw [(Rr.nVal_ok hs).2.1, Bool.or_false]; exact sw.gives (N := [(0, _)]) (.cons rfl (.nil _))⟩)
                  | (have hnone : Rr.numS r = none := by
                       rw [← hi.2.1]
                       first
                       | exact Rr.numG_brk (by omega)
                       | exact Rr.numG_big (by omega) (by omega)
                       | (rw [show i = 10 by omega]; exact Rr.numG_ten)
                     exact fun w1 sw => ⟨Ky.nil0, Rr.nUnd_no rv hnone, by rw [(Rr.nVal_no hnone).1], by rw [(Rr.nVal_no hnone).2.1, Bool.or_true]; exact sw.gives (N := [(0, _)]) (.cons rfl (.nil _))⟩)
                ·
                  refine st (ev_move rfl) rfl rfl rfl ?_
                  refine st (ev_gtr rfl rfl) rfl rfl rfl ?_
                  refine st (ev_pick_f rfl rfl) rfl rfl rfl ?_
                  refine op_nil ?_
                  refine ax_then ?_
                  refine At.regs (L' := [(0, _), (3, _), (4, _), (5, _), (6, _), (7, _), (8, _), (11, _), (12, _), (13, _), (14, _), (15, _), (16, _), (17, _), (18, _), (19, _), (20, _), (21, _), (22, _), (23, _), (24, _), (25, _), (26, _), (27, _), (28, _), (29, _), (30, _), (31, _), (32, _), (33, _), (34, _), (35, _), (36, _), (37, _), (38, _), (39, _), (40, _), (41, _), (42, _), (43, _), (44, _), (45, _), (46, _), (47, _), (48, _), (49, _), (50, _), (51, _), (52, _)]) (.cons rfl (.cons rfl (.cons rfl (.cons rfl (.cons rfl (.cons rfl (.cons rfl (.cons rfl (.cons rfl (.cons rfl (.cons rfl (.cons rfl (.cons rfl (.cons rfl (.cons rfl (.cons rfl (.cons rfl (.cons rfl (.cons rfl (.cons rfl (.cons rfl (.cons rfl (.cons rfl (.cons rfl (.cons rfl (.cons rfl (.cons rfl (.cons rfl (.cons rfl (.cons rfl (.cons rfl (.cons rfl (.cons rfl (.cons rfl (.cons rfl (.cons rfl (.cons rfl (.cons rfl (.cons rfl (.cons rfl (.cons rfl (.cons rfl (.cons rfl (.cons rfl (.cons rfl (.cons rfl (.cons rfl (.cons rfl (.cons rfl (.nil _)))))))))))))))))))))))))))))))))))))))))))))))))) ?_
                  refine cd_if rfl (fun hc52 => ?_) (fun hc52 => ?_)
                  ·
                    refine cd_exit ?_
                    refine ax_then_exit ?_
                    refine ax_block_miss (by decide) ?_
                    refine ax_then_exit ?_
                    refine ax_then_exit ?_
                    refine ax_block_hit ?_
                    refine ax_then ?_
                    refine At.regs (L' := [(0, _)]) (.cons rfl (.nil _)) ?_
                    refine cd_seq ?_
                    refine cd_region ?_
                    refine st (ev_move rfl) rfl rfl rfl ?_
                    refine st_call has84 rfl (fun w1 sw => qbad_any b _ _ w1 (sw.blk_eq (h := 0) rfl)) (mod_blk rfl) rfl rfl (fun _ _ => ?_)
                    refine op_nil ?_
                    refine ax_then ?_
                    refine At.regs (L' := []) (.nil _) ?_
                    refine cd_seq ?_
                    refine cd_region ?_
                    refine st (ev_assign rfl) rfl rfl rfl ?_
                    refine op_nil ?_
                    refine ax_then ?_
                    refine At.regs (L' := [(2, _)]) (.cons rfl (.nil _)) ?_
                    refine cd_ret ?_
                    refine rt_tmp (.inl rfl) Try.results53 rfl ?_
                    first
                    | (have hrc : rc = [] := by
                         cases hbb : bad with
                         | true => exact hi.2.2.2.1 hbb
                         | false => rw [hbb] at hc16; exact Rr.rBad_1 hc16
                       have hnone : Rr.numS r = none := by rw [← hi.2.1, hrc]; rfl
                       exact fun w1 sw => ⟨vd, by rw [(Rr.nVal_no hnone).2.2, ← show Rr.rRest rc 1 = [] from by rw [hrc]; decide]; exact hi.2.2.1.trans hx12, by rw [(Rr.nVal_no hnone).1], by rw [(Rr.nVal_no hnone).2.1, Bool.or_true, ← hc16]; exact sw.gives (N := [(0, _)]) (.cons rfl (.nil _))⟩)
                    | (exact fun w1 sw => ⟨vd, by rw [(Rr.nVal_ok hs).2.2, show r.drop (i + 1) = Rr.rRest (c :: t) 1 from by rw [hraw.2.1, ← htl]]; exact hi.2.2.1.trans hx12, by rw [(Rr.nVal_ok hs).1], by rw [(Rr.nVal_ok hs).2.1, Bool.or_false]; exact sw.gives (N := [(0, _)]) (.cons rfl (.nil _))⟩)
                    | (have hnone : Rr.numS r = none := by
                         rw [← hi.2.1]
                         first
                         | exact Rr.numG_brk (by omega)
                         | exact Rr.numG_big (by omega) (by omega)
                         | (rw [show i = 10 by omega]; exact Rr.numG_ten)
                       exact fun w1 sw => ⟨Ky.nil0, Rr.nUnd_no rv hnone, by rw [(Rr.nVal_no hnone).1], by rw [(Rr.nVal_no hnone).2.1, Bool.or_true]; exact sw.gives (N := [(0, _)]) (.cons rfl (.nil _))⟩)
                  ·
                    refine cd_skip ?_
                    refine ax_then ?_
                    refine At.regs (L' := [(0, _), (3, _), (4, _), (5, _), (6, _), (7, _), (8, _), (11, _), (12, _), (13, _), (14, _), (15, _), (16, _), (17, _), (18, _), (19, _), (20, _), (21, _), (22, _), (23, _), (24, _), (25, _), (26, _), (27, _), (28, _), (29, _), (30, _), (31, _), (32, _), (33, _), (34, _), (35, _), (36, _), (37, _), (38, _), (39, _), (40, _), (41, _), (42, _), (43, _), (44, _), (45, _), (46, _), (47, _), (48, _), (49, _), (50, _), (51, _), (52, _)]) (.cons rfl (.cons rfl (.cons rfl (.cons rfl (.cons rfl (.cons rfl (.cons rfl (.cons rfl (.cons rfl (.cons rfl (.cons rfl (.cons rfl (.cons rfl (.cons rfl (.cons rfl (.cons rfl (.cons rfl (.cons rfl (.cons rfl (.cons rfl (.cons rfl (.cons rfl (.cons rfl (.cons rfl (.cons rfl (.cons rfl (.cons rfl (.cons rfl (.cons rfl (.cons rfl (.cons rfl (.cons rfl (.cons rfl (.cons rfl (.cons rfl (.cons rfl (.cons rfl (.cons rfl (.cons rfl (.cons rfl (.cons rfl (.cons rfl (.cons rfl (.cons rfl (.cons rfl (.cons rfl (.cons rfl (.cons rfl (.cons rfl (.nil _)))))))))))))))))))))))))))))))))))))))))))))))))) ?_
                    refine cd_seq ?_
                    refine cd_region ?_
                    refine st (ev_move rfl) rfl rfl rfl ?_
                    have h9 : i ≠ 9 := by
                      intro h9
                      subst h9
                      have hc01 : c = 0 ∨ c = 1 := by omega
                      rcases hc01 with rfl | rfl
                      · omega
                      · have := Rr.acc_nine u
                        omega
                    have hs : Rr.numS r = some (Rr.acc u c i, i + 1) := by rw [← hi.2.1]; exact Rr.numG_ok (by omega) (by omega) (by omega)
                    have hrng := Rr.numS_spec hs
                    have hrg1 : Rr.acc u c i ≤ 4611686018427387904 := hrng.2.1
                    refine st (ev_conv64 Try.underlying135 Try.underlying3 rfl (by omega) (by omega)) rfl rfl rfl ?_
                    refine st (ev_assign rfl) rfl rfl rfl ?_
                    refine op_nil ?_
                    refine ax_then ?_
                    refine At.regs (L' := [(0, _), (2, _), (3, _), (4, _), (5, _), (6, _), (7, _), (8, _), (11, _), (12, _), (13, _), (14, _), (15, _), (16, _), (17, _), (18, _), (19, _), (20, _), (21, _), (22, _), (23, _), (24, _), (25, _), (26, _), (27, _), (28, _), (29, _), (30, _), (31, _), (32, _), (33, _), (34, _), (35, _), (36, _), (37, _), (38, _), (39, _), (40, _), (41, _), (42, _), (43, _), (44, _), (45, _), (46, _), (47, _), (48, _), (49, _), (50, _), (51, _), (52, _), (53, _), (54, _)]) (.cons rfl (.cons rfl (.cons rfl (.cons rfl (.cons rfl (.cons rfl (.cons rfl (.cons rfl (.cons rfl (.cons rfl (.cons rfl (.cons rfl (.cons rfl (.cons rfl (.cons rfl (.cons rfl (.cons rfl (.cons rfl (.cons rfl (.cons rfl (.cons rfl (.cons rfl (.cons rfl (.cons rfl (.cons rfl (.cons rfl (.cons rfl (.cons rfl (.cons rfl (.cons rfl (.cons rfl (.cons rfl (.cons rfl (.cons rfl (.cons rfl (.cons rfl (.cons rfl (.cons rfl (.cons rfl (.cons rfl (.cons rfl (.cons rfl (.cons rfl (.cons rfl (.cons rfl (.cons rfl (.cons rfl (.cons rfl (.cons rfl (.cons rfl (.cons rfl (.cons rfl (.nil _))))))))))))))))))))))))))))))))))))))))))))))))))))) ?_
                    refine cd_ret ?_
                    refine ax_block_ret ?_
                    refine ax_then_ret ?_
                    refine ax_then_ret ?_
                    refine ax_block_ret ?_
                    refine ax_then_ret ?_
                    refine rt_tmp (.inl rfl) Try.results53 rfl ?_
                    first
                    | (have hrc : rc = [] := by
                         cases hbb : bad with
                         | true => exact hi.2.2.2.1 hbb
                         | false => rw [hbb] at hc16; exact Rr.rBad_1 hc16
                       have hnone : Rr.numS r = none := by rw [← hi.2.1, hrc]; rfl
                       exact fun w1 sw => ⟨vd, by rw [(Rr.nVal_no hnone).2.2, ← show Rr.rRest rc 1 = [] from by rw [hrc]; decide]; exact hi.2.2.1.trans hx12, by rw [(Rr.nVal_no hnone).1], by rw [(Rr.nVal_no hnone).2.1, Bool.or_true, ← hc16]; exact sw.gives (N := [(0, _)]) (.cons rfl (.nil _))⟩)
                    | (exact fun w1 sw => ⟨vd, by rw [(Rr.nVal_ok hs).2.2, show r.drop (i + 1) = Rr.rRest (c :: t) 1 from by rw [hraw.2.1, ← htl]]; exact hi.2.2.1.trans hx12, by rw [(Rr.nVal_ok hs).1], by rw [(Rr.nVal_ok hs).2.1, Bool.or_false]; exact sw.gives (N := [(0, _)]) (.cons rfl (.nil _))⟩)
                    | (have hnone : Rr.numS r = none := by
                         rw [← hi.2.1]
                         first
                         | exact Rr.numG_brk (by omega)
                         | exact Rr.numG_big (by omega) (by omega)
                         | (rw [show i = 10 by omega]; exact Rr.numG_ten)
                       exact fun w1 sw => ⟨Ky.nil0, Rr.nUnd_no rv hnone, by rw [(Rr.nVal_no hnone).1], by rw [(Rr.nVal_no hnone).2.1, Bool.or_true]; exact sw.gives (N := [(0, _)]) (.cons rfl (.nil _))⟩)
              ·
                refine st_skip rfl rfl rfl ?_
                refine st_skip rfl rfl rfl ?_
                refine st (ev_pick_f rfl rfl) rfl rfl rfl ?_
                refine st (ev_move rfl) rfl rfl rfl ?_
                refine st (ev_move rfl) rfl rfl rfl ?_
                refine st (ev_gtr rfl rfl) rfl rfl rfl ?_
                refine st (ev_pick_f rfl rfl) rfl rfl rfl ?_
                refine op_nil ?_
                refine ax_then ?_
                refine At.regs (L' := [(0, _), (3, _), (4, _), (5, _), (6, _), (7, _), (8, _), (11, _), (12, _), (13, _), (14, _), (15, _), (16, _), (17, _), (18, _), (19, _), (20, _), (21, _), (22, _), (23, _), (24, _), (25, _), (26, _), (27, _), (28, _), (29, _), (30, _), (31, _), (32, _), (33, _), (34, _), (35, _), (36, _), (37, _), (38, _), (39, _), (40, _), (41, _), (42, _), (43, _), (44, _), (45, _), (46, _), (47, _), (48, _), (49, _), (50, _), (51, _), (52, _)]) (.cons rfl (.cons rfl (.cons rfl (.cons rfl (.cons rfl (.cons rfl (.cons rfl (.cons rfl (.cons rfl (.cons rfl (.cons rfl (.cons rfl (.cons rfl (.cons rfl (.cons rfl (.cons rfl (.cons rfl (.cons rfl (.cons rfl (.cons rfl (.cons rfl (.cons rfl (.cons rfl (.cons rfl (.cons rfl (.cons rfl (.cons rfl (.cons rfl (.cons rfl (.cons rfl (.cons rfl (.cons rfl (.cons rfl (.cons rfl (.cons rfl (.cons rfl (.cons rfl (.cons rfl (.cons rfl (.cons rfl (.cons rfl (.cons rfl (.cons rfl (.cons rfl (.cons rfl (.cons rfl (.cons rfl (.cons rfl (.cons rfl (.nil _)))))))))))))))))))))))))))))))))))))))))))))))))) ?_
                refine cd_if rfl (fun hc52 => ?_) (fun hc52 => ?_)
                ·
                  refine cd_exit ?_
                  refine ax_then_exit ?_
                  refine ax_block_miss (by decide) ?_
                  refine ax_then_exit ?_
                  refine ax_then_exit ?_
                  refine ax_block_hit ?_
                  refine ax_then ?_
                  refine At.regs (L' := [(0, _)]) (.cons rfl (.nil _)) ?_
                  refine cd_seq ?_
                  refine cd_region ?_
                  refine st (ev_move rfl) rfl rfl rfl ?_
                  refine st_call has84 rfl (fun w1 sw => qbad_any b _ _ w1 (sw.blk_eq (h := 0) rfl)) (mod_blk rfl) rfl rfl (fun _ _ => ?_)
                  refine op_nil ?_
                  refine ax_then ?_
                  refine At.regs (L' := []) (.nil _) ?_
                  refine cd_seq ?_
                  refine cd_region ?_
                  refine st (ev_assign rfl) rfl rfl rfl ?_
                  refine op_nil ?_
                  refine ax_then ?_
                  refine At.regs (L' := [(2, _)]) (.cons rfl (.nil _)) ?_
                  refine cd_ret ?_
                  refine rt_tmp (.inl rfl) Try.results53 rfl ?_
                  first
                  | (have hrc : rc = [] := by
                       cases hbb : bad with
                       | true => exact hi.2.2.2.1 hbb
                       | false => rw [hbb] at hc16; exact Rr.rBad_1 hc16
                     have hnone : Rr.numS r = none := by rw [← hi.2.1, hrc]; rfl
                     exact fun w1 sw => ⟨vd, by rw [(Rr.nVal_no hnone).2.2, ← show Rr.rRest rc 1 = [] from by rw [hrc]; decide]; exact hi.2.2.1.trans hx12, by rw [(Rr.nVal_no hnone).1], by rw [(Rr.nVal_no hnone).2.1, Bool.or_true, ← hc16]; exact sw.gives (N := [(0, _)]) (.cons rfl (.nil _))⟩)
                  | (exact fun w1 sw => ⟨vd, by rw [(Rr.nVal_ok hs).2.2, show r.drop (i + 1) = Rr.rRest (c :: t) 1 from by rw [hraw.2.1, ← htl]]; exact hi.2.2.1.trans hx12, by rw [(Rr.nVal_ok hs).1], by rw [(Rr.nVal_ok hs).2.1, Bool.or_false]; exact sw.gives (N := [(0, _)]) (.cons rfl (.nil _))⟩)
                  | (have hnone : Rr.numS r = none := by
                       rw [← hi.2.1]
                       first
                       | exact Rr.numG_brk (by omega)
                       | exact Rr.numG_big (by omega) (by omega)
                       | (rw [show i = 10 by omega]; exact Rr.numG_ten)
                     exact fun w1 sw => ⟨Ky.nil0, Rr.nUnd_no rv hnone, by rw [(Rr.nVal_no hnone).1], by rw [(Rr.nVal_no hnone).2.1, Bool.or_true]; exact sw.gives (N := [(0, _)]) (.cons rfl (.nil _))⟩)
                ·
                  refine cd_skip ?_
                  refine ax_then ?_
                  refine At.regs (L' := [(0, _), (3, _), (4, _), (5, _), (6, _), (7, _), (8, _), (11, _), (12, _), (13, _), (14, _), (15, _), (16, _), (17, _), (18, _), (19, _), (20, _), (21, _), (22, _), (23, _), (24, _), (25, _), (26, _), (27, _), (28, _), (29, _), (30, _), (31, _), (32, _), (33, _), (34, _), (35, _), (36, _), (37, _), (38, _), (39, _), (40, _), (41, _), (42, _), (43, _), (44, _), (45, _), (46, _), (47, _), (48, _), (49, _), (50, _), (51, _), (52, _)]) (.cons rfl (.cons rfl (.cons rfl (.cons rfl (.cons rfl (.cons rfl (.cons rfl (.cons rfl (.cons rfl (.cons rfl (.cons rfl (.cons rfl (.cons rfl (.cons rfl (.cons rfl (.cons rfl (.cons rfl (.cons rfl (.cons rfl (.cons rfl (.cons rfl (.cons rfl (.cons rfl (.cons rfl (.cons rfl (.cons rfl (.cons rfl (.cons rfl (.cons rfl (.cons rfl (.cons rfl (.cons rfl (.cons rfl (.cons rfl (.cons rfl (.cons rfl (.cons rfl (.cons rfl (.cons rfl (.cons rfl (.cons rfl (.cons rfl (.cons rfl (.cons rfl (.cons rfl (.cons rfl (.cons rfl (.cons rfl (.cons rfl (.nil _)))))))))))))))))))))))))))))))))))))))))))))))))) ?_
                  refine cd_seq ?_
                  refine cd_region ?_
                  refine st (ev_move rfl) rfl rfl rfl ?_
                  have h9 : i ≠ 9 := by
                    intro h9
                    subst h9
                    have hc01 : c = 0 ∨ c = 1 := by omega
                    rcases hc01 with rfl | rfl
                    · omega
                    · have := Rr.acc_nine u
                      omega
                  have hs : Rr.numS r = some (Rr.acc u c i, i + 1) := by rw [← hi.2.1]; exact Rr.numG_ok (by omega) (by omega) (by omega)
                  have hrng := Rr.numS_spec hs
                  have hrg1 : Rr.acc u c i ≤ 4611686018427387904 := hrng.2.1
                  refine st (ev_conv64 Try.underlying135 Try.underlying3 rfl (by omega) (by omega)) rfl rfl rfl ?_
                  refine st (ev_assign rfl) rfl rfl rfl ?_
                  refine op_nil ?_
                  refine ax_then ?_
                  refine At.regs (L' := [(0, _), (2, _), (3, _), (4, _), (5, _), (6, _), (7, _), (8, _), (11, _), (12, _), (13, _), (14, _), (15, _), (16, _), (17, _), (18, _), (19, _), (20, _), (21, _), (22, _), (23, _), (24, _), (25, _), (26, _), (27, _), (28, _), (29, _), (30, _), (31, _), (32, _), (33, _), (34, _), (35, _), (36, _), (37, _), (38, _), (39, _), (40, _), (41, _), (42, _), (43, _), (44, _), (45, _), (46, _), (47, _), (48, _), (49, _), (50, _), (51, _), (52, _), (53, _), (54, _)]) (.cons rfl (.cons rfl (.cons rfl (.cons rfl (.cons rfl (.cons rfl (.cons rfl (.cons rfl (.cons rfl (.cons rfl (.cons rfl (.cons rfl (.cons rfl (.cons rfl (.cons rfl (.cons rfl (.cons rfl (.cons rfl (.cons rfl (.cons rfl (.cons rfl (.cons rfl (.cons rfl (.cons rfl (.cons rfl (.cons rfl (.cons rfl (.cons rfl (.cons rfl (.cons rfl (.cons rfl (.cons rfl (.cons rfl (.cons rfl (.cons rfl (.cons rfl (.cons rfl (.cons rfl (.cons rfl (.cons rfl (.cons rfl (.cons rfl (.cons rfl (.cons rfl (.cons rfl (.cons rfl (.cons rfl (.cons rfl (.cons rfl (.cons rfl (.cons rfl (.cons rfl (.nil _))))))))))))))))))))))))))))))))))))))))))))))))))))) ?_
                  refine cd_ret ?_
                  refine ax_block_ret ?_
                  refine ax_then_ret ?_
                  refine ax_then_ret ?_
                  refine ax_block_ret ?_
                  refine ax_then_ret ?_
                  refine rt_tmp (.inl rfl) Try.results53 rfl ?_
                  first
                  | (have hrc : rc = [] := by
                       cases hbb : bad with
                       | true => exact hi.2.2.2.1 hbb
                       | false => rw [hbb] at hc16; exact Rr.rBad_1 hc16
                     have hnone : Rr.numS r = none := by rw [← hi.2.1, hrc]; rfl
                     exact fun w1 sw => ⟨vd, by rw [(Rr.nVal_no hnone).2.2, ← show Rr.rRest rc 1 = [] from by rw [hrc]; decide]; exact hi.2.2.1.trans hx12, by rw [(Rr.nVal_no hnone).1], by rw [(Rr.nVal_no hnone).2.1, Bool.or_true, ← hc16]; exact sw.gives (N := [(0, _)]) (.cons rfl (.nil _))⟩)
                  | (exact fun w1 sw => ⟨vd, by rw [(Rr.nVal_ok hs).2.2, show r.drop (i + 1) = Rr.rRest (c :: t) 1 from by rw [hraw.2.1, ← htl]]; exact hi.2.2.1.trans hx12, by rw [(Rr.nVal_ok hs).1], by rw [(Rr.nVal_ok hs).2.1, Bool.or_false]; exact sw.gives (N := [(0, _)]) (.cons rfl (.nil _))⟩)
                  | (have hnone : Rr.numS r = none := by
                       rw [← hi.2.1]
                       first
                       | exact Rr.numG_brk (by omega)
                       | exact Rr.numG_big (by omega) (by omega)
                       | (rw [show i = 10 by omega]; exact Rr.numG_ten)
                     exact fun w1 sw => ⟨Ky.nil0, Rr.nUnd_no rv hnone, by rw [(Rr.nVal_no hnone).1], by rw [(Rr.nVal_no hnone).2.1, Bool.or_true]; exact sw.gives (N := [(0, _)]) (.cons rfl (.nil _))⟩)
      ·
        refine st_skip rfl rfl rfl ?_
        refine st_skip rfl rfl rfl ?_
        refine st (ev_pick_f rfl rfl) rfl rfl rfl ?_
        refine op_nil ?_
        refine ax_then ?_
        refine At.regs (L' := [(0, _), (3, _), (4, _), (5, _), (6, _), (7, _), (8, _), (11, _), (12, _), (13, _), (14, _), (15, _), (16, _), (17, _), (18, _), (19, _), (20, _), (21, _), (22, _), (23, _), (24, _), (25, _)]) (.cons rfl (.cons rfl (.cons rfl (.cons rfl (.cons rfl (.cons rfl (.cons rfl (.cons rfl (.cons rfl (.cons rfl (.cons rfl (.cons rfl (.cons rfl (.cons rfl (.cons rfl (.cons rfl (.cons rfl (.cons rfl (.cons rfl (.cons rfl (.cons rfl (.cons rfl (.nil _))))))))))))))))))))))) ?_
        refine cd_false rfl ?_
        refine cd_skip ?_
        refine ax_then ?_
        refine At.regs (L' := [(0, _), (3, _), (4, _), (5, _), (6, _), (7, _), (8, _), (11, _), (12, _), (13, _), (14, _), (15, _), (16, _), (17, _), (18, _), (19, _), (20, _), (21, _), (22, _), (23, _), (24, _), (25, _)]) (.cons rfl (.cons rfl (.cons rfl (.cons rfl (.cons rfl (.cons rfl (.cons rfl (.cons rfl (.cons rfl (.cons rfl (.cons rfl (.cons rfl (.cons rfl (.cons rfl (.cons rfl (.cons rfl (.cons rfl (.cons rfl (.cons rfl (.cons rfl (.cons rfl (.cons rfl (.nil _))))))))))))))))))))))) ?_
        refine cd_seq ?_
        refine cd_seq ?_
        refine cd_region ?_
        refine st (ev_move rfl) rfl rfl rfl ?_
        refine st (ev_eql rfl rfl) rfl rfl rfl ?_
        refine st (ev_move rfl) rfl rfl rfl ?_
        refine at_eq (i := 28) (v' := .bool false) rfl (by simp only [Value.bool.injEq, decide_eq_true_eq, decide_eq_false_iff_not]; exact hg22) ?_
        refine st_skip rfl rfl rfl ?_
        refine st_skip rfl rfl rfl ?_
        refine st (ev_pick_f rfl rfl) rfl rfl rfl ?_
        refine op_nil ?_
        refine ax_then ?_
        refine At.regs (L' := [(0, _), (3, _), (4, _), (5, _), (6, _), (7, _), (8, _), (11, _), (12, _), (13, _), (14, _), (15, _), (16, _), (17, _), (18, _), (19, _), (20, _), (21, _), (22, _), (23, _), (24, _), (25, _), (26, _), (27, _), (28, _), (29, _), (30, _), (31, _)]) (.cons rfl (.cons rfl (.cons rfl (.cons rfl (.cons rfl (.cons rfl (.cons rfl (.cons rfl (.cons rfl (.cons rfl (.cons rfl (.cons rfl (.cons rfl (.cons rfl (.cons rfl (.cons rfl (.cons rfl (.cons rfl (.cons rfl (.cons rfl (.cons rfl (.cons rfl (.cons rfl (.cons rfl (.cons rfl (.cons rfl (.cons rfl (.cons rfl (.nil _))))))))))))))))))))))))))))) ?_
        refine cd_false rfl ?_
        refine cd_skip ?_
        refine ax_then ?_
        refine At.regs (L' := [(0, _), (3, _), (4, _), (5, _), (6, _), (7, _), (8, _), (11, _), (12, _), (13, _), (14, _), (15, _), (16, _), (17, _), (18, _), (19, _), (20, _), (21, _), (22, _), (23, _), (24, _), (25, _), (26, _), (27, _), (28, _), (29, _), (30, _), (31, _)]) (.cons rfl (.cons rfl (.cons rfl (.cons rfl (.cons rfl (.cons rfl (.cons rfl (.cons rfl (.cons rfl (.cons rfl (.cons rfl (.cons rfl (.cons rfl (.cons rfl (.cons rfl (.cons rfl (.cons rfl (.cons rfl (.cons rfl (.cons rfl (.cons rfl (.cons rfl (.cons rfl (.cons rfl (.cons rfl (.cons rfl (.cons rfl (.cons rfl (.nil _))))))))))))))))))))))))))))) ?_
        refine cd_seq ?_
        refine cd_region ?_
        refine st (ev_move rfl) rfl rfl rfl ?_
        refine st (ev_move rfl) rfl rfl rfl ?_
        refine st (ev_and rfl rfl) rfl rfl rfl ?_
        refine st (ev_conv Try.underlying5 Try.underlying135 rfl) rfl rfl rfl ?_
        refine st (ev_move rfl) rfl rfl rfl ?_
        refine st (ev_mul64 rfl rfl (by omega) (by omega)) rfl rfl rfl ?_
        refine st (ev_convu64 Try.underlying3 Try.underlying136 rfl (by omega) (by omega)) rfl rfl rfl ?_
        refine st (ev_shl rfl rfl (by omega)) rfl rfl rfl ?_
        refine st (ev_or rfl rfl) rfl rfl rfl ?_
        refine at_eq (i := 40) (v' := .int .u64 (Rr.acc u c i)) rfl rfl ?_
        have hap := Rr.acc_pos u c i
        refine st (ev_assign rfl) rfl rfl rfl ?_
        refine op_nil ?_
        refine ax_then ?_
        refine At.regs (L' := [(0, _), (3, _), (4, _), (5, _), (6, _), (7, _), (8, _), (11, _), (12, _), (13, _), (14, _), (15, _), (16, _), (17, _), (18, _), (19, _), (20, _), (21, _), (22, _), (23, _), (24, _), (25, _), (26, _), (27, _), (28, _), (29, _), (30, _), (31, _), (32, _), (33, _), (34, _), (35, _), (36, _), (37, _), (38, _), (39, _), (40, _)]) (.cons rfl (.cons rfl (.cons rfl (.cons rfl (.cons rfl (.cons rfl (.cons rfl (.cons rfl (.cons rfl (.cons rfl (.cons rfl (.cons rfl (.cons rfl (.cons rfl (.cons rfl (.cons rfl (.cons rfl (.cons rfl (.cons rfl (.cons rfl (.cons rfl (.cons rfl (.cons rfl (.cons rfl (.cons rfl (.cons rfl (.cons rfl (.cons rfl (.cons rfl (.cons rfl (.cons rfl (.cons rfl (.cons rfl (.cons rfl (.cons rfl (.cons rfl (.cons rfl (.nil _)))))))))))))))))))))))))))))))))))))) ?_
        refine cd_seq ?_
        refine cd_seq ?_
        refine cd_region ?_
        refine st (ev_move rfl) rfl rfl rfl ?_
        refine st (ev_gtr rfl rfl) rfl rfl rfl ?_
        refine op_nil ?_
        refine ax_then ?_
        refine At.regs (L' := [(0, _), (3, _), (4, _), (5, _), (6, _), (7, _), (8, _), (11, _), (12, _), (13, _), (14, _), (15, _), (16, _), (17, _), (18, _), (19, _), (20, _), (21, _), (22, _), (23, _), (24, _), (25, _), (26, _), (27, _), (28, _), (29, _), (30, _), (31, _), (32, _), (33, _), (34, _), (35, _), (36, _), (37, _), (38, _), (39, _), (40, _), (41, _), (42, _)]) (.cons rfl (.cons rfl (.cons rfl (.cons rfl (.cons rfl (.cons rfl (.cons rfl (.cons rfl (.cons rfl (.cons rfl (.cons rfl (.cons rfl (.cons rfl (.cons rfl (.cons rfl (.cons rfl (.cons rfl (.cons rfl (.cons rfl (.cons rfl (.cons rfl (.cons rfl (.cons rfl (.cons rfl (.cons rfl (.cons rfl (.cons rfl (.cons rfl (.cons rfl (.cons rfl (.cons rfl (.cons rfl (.cons rfl (.cons rfl (.cons rfl (.cons rfl (.cons rfl (.cons rfl (.cons rfl (.nil _)))))))))))))))))))))))))))))))))))))))) ?_
        refine cd_if rfl (fun hc42 => ?_) (fun hc42 => ?_)
        ·
          refine cd_exit ?_
          refine ax_then_exit ?_
          refine ax_block_hit ?_
          refine ax_then ?_
          refine At.regs (L' := [(0, _), (3, _), (4, _), (5, _), (6, _), (7, _), (8, _), (11, _), (12, _), (13, _), (14, _), (15, _), (16, _), (17, _), (18, _), (19, _), (20, _), (21, _), (22, _), (23, _), (24, _), (25, _), (26, _), (27, _), (28, _), (29, _), (30, _), (31, _), (32, _), (33, _), (34, _), (35, _), (36, _), (37, _), (38, _), (39, _), (40, _), (41, _), (42, _)]) (.cons rfl (.cons rfl (.cons rfl (.cons rfl (.cons rfl (.cons rfl (.cons rfl (.cons rfl (.cons rfl (.cons rfl (.cons rfl (.cons rfl (.cons rfl (.cons rfl (.cons rfl (.cons rfl (.cons rfl (.cons rfl (.cons rfl (.cons rfl (.cons rfl (.cons rfl (.cons rfl (.cons rfl (.cons rfl (.cons rfl (.cons rfl (.cons rfl (.cons rfl (.cons rfl (.cons rfl (.cons rfl (.cons rfl (.cons rfl (.cons rfl (.cons rfl (.cons rfl (.cons rfl (.cons rfl (.nil _)))))))))))))))))))))))))))))))))))))))) ?_
          refine cd_region ?_
          refine st (ev_move rfl) rfl rfl rfl ?_
          refine st (ev_add64 rfl rfl (by omega) (by omega)) rfl rfl rfl ?_
          refine st (ev_assign rfl) rfl rfl rfl ?_
          refine op_nil ?_
          exact at_again ((i + 1, Rr.acc u c i, vd, Rr.rRest (c :: t) 1)) (⟨by show i + 1 ≤ 10; omega, by show Rr.numG (i + 1) (Rr.acc u c i) (Rr.rRest (c :: t) 1) = Rr.numS r; rw [hraw.2.1, ← Rr.numG_go (by omega) (by omega)]; exact hi.2.1, hi.2.2.1.trans hx12, fun hb2 => (hi.2.2.2.1 hb2 |> fun hh => by cases hh), by show Rr.rRest (c :: t) 1 = r.drop (i + 1); rw [hraw.2.1]; exact htl⟩) (by omega) (.cons rfl (.cons rfl (.cons rfl (.nil _)))) (.cons rfl (.nil _)) (.cons rfl (.nil _))
        ·
          refine cd_skip ?_
          refine ax_then ?_
          refine At.regs (L' := [(0, _), (3, _), (4, _), (5, _), (6, _), (7, _), (8, _), (11, _), (12, _), (13, _), (14, _), (15, _), (16, _), (17, _), (18, _), (19, _), (20, _), (21, _), (22, _), (23, _), (24, _), (25, _), (26, _), (27, _), (28, _), (29, _), (30, _), (31, _), (32, _), (33, _), (34, _), (35, _), (36, _), (37, _), (38, _), (39, _), (40, _), (41, _), (42, _)]) (.cons rfl (.cons rfl (.cons rfl (.cons rfl (.cons rfl (.cons rfl (.cons rfl (.cons rfl (.cons rfl (.cons rfl (.cons rfl (.cons rfl (.cons rfl (.cons rfl (.cons rfl (.cons rfl (.cons rfl (.cons rfl (.cons rfl (.cons rfl (.cons rfl (.cons rfl (.cons rfl (.cons rfl (.cons rfl (.cons rfl (.cons rfl (.cons rfl (.cons rfl (.cons rfl (.cons rfl (.cons rfl (.cons rfl (.cons rfl (.cons rfl (.cons rfl (.cons rfl (.cons rfl (.cons rfl (.nil _)))))))))))))))))))))))))))))))))))))))) ?_
          refine cd_seq ?_
          refine cd_seq ?_
          refine cd_region ?_
          refine st (ev_move rfl) rfl rfl rfl ?_
          refine st (ev_gtr rfl rfl) rfl rfl rfl ?_
          refine st (ev_move rfl) rfl rfl rfl ?_
          refine at_split_if (i := 45) rfl (fun hg45 => ?_) (fun hg45 => ?_)
          ·
            refine st (ev_move rfl) rfl rfl rfl ?_
            refine st (ev_eql rfl rfl) rfl rfl rfl ?_
            refine st (ev_pick_t rfl rfl) rfl rfl rfl ?_
            refine st (ev_move rfl) rfl rfl rfl ?_
            refine at_split_if (i := 49) rfl (fun hg49 => ?_) (fun hg49 => ?_)
            ·
              refine st_skip rfl rfl rfl ?_
              refine st_skip rfl rfl rfl ?_
              refine st (ev_pick_t rfl rfl) rfl rfl rfl ?_
              refine op_nil ?_
              refine ax_then ?_
              refine At.regs (L' := [(0, _), (3, _), (4, _), (5, _), (6, _), (7, _), (8, _), (11, _), (12, _), (13, _), (14, _), (15, _), (16, _), (17, _), (18, _), (19, _), (20, _), (21, _), (22, _), (23, _), (24, _), (25, _), (26, _), (27, _), (28, _), (29, _), (30, _), (31, _), (32, _), (33, _), (34, _), (35, _), (36, _), (37, _), (38, _), (39, _), (40, _), (41, _), (42, _), (43, _), (44, _), (45, _), (46, _), (47, _), (48, _), (49, _), (50, _), (51, _), (52, _)]) (.cons rfl (.cons rfl (.cons rfl (.cons rfl (.cons rfl (.cons rfl (.cons rfl (.cons rfl (.cons rfl (.cons rfl (.cons rfl (.cons rfl (.cons rfl (.cons rfl (.cons rfl (.cons rfl (.cons rfl (.cons rfl (.cons rfl (.cons rfl (.cons rfl (.cons rfl (.cons rfl (.cons rfl (.cons rfl (.cons rfl (.cons rfl (.cons rfl (.cons rfl (.cons rfl (.cons rfl (.cons rfl (.cons rfl (.cons rfl (.cons rfl (.cons rfl (.cons rfl (.cons rfl (.cons rfl (.cons rfl (.cons rfl (.cons rfl (.cons rfl (.cons rfl (.cons rfl (.cons rfl (.cons rfl (.cons rfl (.cons rfl (.nil _)))))))))))))))))))))))))))))))))))))))))))))))))) ?_
              refine cd_true rfl ?_
              refine cd_exit ?_
              refine ax_then_exit ?_
              refine ax_block_miss (by decide) ?_
              refine ax_then_exit ?_
              refine ax_then_exit ?_
              refine ax_block_hit ?_
              refine ax_then ?_
              refine At.regs (L' := [(0, _)]) (.cons rfl (.nil _)) ?_
              refine cd_seq ?_
              refine cd_region ?_
              refine st (ev_move rfl) rfl rfl rfl ?_
              refine st_call has84 rfl (fun w1 sw => qbad_any b _ _ w1 (sw.blk_eq (h := 0) rfl)) (mod_blk rfl) rfl rfl (fun _ _ => ?_)
              refine op_nil ?_
              refine ax_then ?_
              refine At.regs (L' := []) (.nil _) ?_
              refine cd_seq ?_
              refine cd_region ?_
              refine st (ev_assign rfl) rfl rfl rfl ?_
              refine op_nil ?_
              refine ax_then ?_
              refine At.regs (L' := [(2, _)]) (.cons rfl (.nil _)) ?_
              refine cd_ret ?_
              refine rt_tmp (.inl rfl) Try.results53 rfl ?_
              first
              | (have hrc : rc = [] := by
                   cases hbb : bad with
                   | true => exact hi.2.2.2.1 hbb
                   | false => rw [hbb] at hc16; exact Rr.rBad_1 hc16
                 have hnone : Rr.numS r = none := by rw [← hi.2.1, hrc]; rfl
                 exact fun w1 sw => ⟨vd, by rw [(Rr.nVal_no hnone).2.2, ← show Rr.rRest rc 1 = [] from by rw [hrc]; decide]; exact hi.2.2.1.trans hx12, by rw [(Rr.nVal_no hnone).1], by rw [(Rr.nVal_no hnone).2.1, Bool.or_true, ← hc16]; exact sw.gives (N := [(0, _)]) (.cons rfl (.nil _))⟩)
              | (exact fun w1 sw => ⟨vd, by rw [(Rr.nVal_ok hs).2.2, show r.drop (i + 1) = Rr.rRest (c :: t) 1 from by rw [hraw.2.1, ← htl]]; exact hi.2.2.1.trans hx12, by rw [(Rr.nVal_ok hs).1], by rw [(Rr.nVal_ok hs).2.1, Bool.or_false]; exact sw.gives (N := [(0, _)]) (.cons rfl (.nil _))⟩)
              | (have hnone : Rr.numS r = none := by
                   rw [← hi.2.1]
                   first
                   | exact Rr.numG_brk (by omega)
                   | exact Rr.numG_big (by omega) (by omega)
                   | (rw [show i = 10 by omega]; exact Rr.numG_ten)
                 exact fun w1 sw => ⟨Ky.nil0, Rr.nUnd_no rv hnone, by rw [(Rr.nVal_no hnone).1], by rw [(Rr.nVal_no hnone).2.1, Bool.or_true]; exact sw.gives (N := [(0, _)]) (.cons rfl (.nil _))⟩)
            ·
              refine st (ev_move rfl) rfl rfl rfl ?_
              refine st (ev_gtr rfl rfl) rfl rfl rfl ?_
              refine st (ev_pick_f rfl rfl) rfl rfl rfl ?_
              refine op_nil ?_
              refine ax_then ?_
              refine At.regs (L' := [(0, _), (3, _), (4, _), (5, _), (6, _), (7, _), (8, _), (11, _), (12, _), (13, _), (14, _), (15, _), (16, _), (17, _), (18, _), (19, _), (20, _), (21, _), (22, _), (23, _), (24, _), (25, _), (26, _), (27, _), (28, _), (29, _), (30, _), (31, _), (32, _), (33, _), (34, _), (35, _), (36, _), (37, _), (38, _), (39, _), (40, _), (41, _), (42, _), (43, _), (44, _), (45, _), (46, _), (47, _), (48, _), (49, _), (50, _), (51, _), (52, _)]) (.cons rfl (.cons rfl (.cons rfl (.cons rfl (.cons rfl (.cons rfl (.cons rfl (.cons rfl (.cons rfl (.cons rfl (.cons rfl (.cons rfl (.cons rfl (.cons rfl (.cons rfl (.cons rfl (.cons rfl (.cons rfl (.cons rfl (.cons rfl (.cons rfl (.cons rfl (.cons rfl (.cons rfl (.cons rfl (.cons rfl (.cons rfl (.cons rfl (.cons rfl (.cons rfl (.cons rfl (.cons rfl (.cons rfl (.cons rfl (.cons rfl (.cons rfl (.cons rfl (.cons rfl (.cons rfl (.cons rfl (.cons rfl (.cons rfl (.cons rfl (.cons rfl (.cons rfl (.cons rfl (.cons rfl (.cons rfl (.cons rfl (.nil _)))))))))))))))))))))))))))))))))))))))))))))))))) ?_
              refine cd_if rfl (fun hc52 => ?_) (fun hc52 => ?_)
              ·
                refine cd_exit ?_
                refine ax_then_exit ?_
                refine ax_block_miss (by decide) ?_
                refine ax_then_exit ?_
                refine ax_then_exit ?_
                refine ax_block_hit ?_
                refine ax_then ?_
                refine At.regs (L' := [(0, _)]) (.cons rfl (.nil _)) ?_
                refine cd_seq ?_
                refine cd_region ?_
                refine st (ev_move rfl) rfl rfl rfl ?_
                refine st_call has84 rfl (fun w1 sw => qbad_any b _ _ w1 (sw.blk_eq (h := 0) rfl)) (mod_blk rfl) rfl rfl (fun _ _ => ?_)
                refine op_nil ?_
                refine ax_then ?_
                refine At.regs (L' := []) (.nil _) ?_
                refine cd_seq ?_
                refine cd_region ?_
                refine st (ev_assign rfl) rfl rfl rfl ?_
                refine op_nil ?_
                refine ax_then ?_
                refine At.regs (L' := [(2, _)]) (.cons rfl (.nil _)) ?_
                refine cd_ret ?_
                refine rt_tmp (.inl rfl) Try.results53 rfl ?_
                first
                | (have hrc : rc = [] := by
                     cases hbb : bad with
                     | true => exact hi.2.2.2.1 hbb
                     | false => rw [hbb] at hc16; exact Rr.rBad_1 hc16
                   have hnone : Rr.numS r = none := by rw [← hi.2.1, hrc]; rfl
                   exact fun w1 sw => ⟨vd, by rw [(Rr.nVal_no hnone).2.2, ← show Rr.rRest rc 1 = [] from by rw [hrc]; decide]; exact hi.2.2.1.trans hx12, by rw [(Rr.nVal_no hnone).1], by rw [(Rr.nVal_no hnone).2.1, Bool.or_true, ← hc16]; exact sw.gives (N := [(0, _)]) (.cons rfl (.nil _))⟩)
                | (exact fun w1 sw => ⟨vd, by rw [(Rr.nVal_ok hs).2.2, show r.drop (i + 1) = Rr.rRest (c :: t) 1 from by rw [hraw.2.1, ← htl]]; exact hi.2.2.1.trans hx12, by rw [(Rr.nVal_ok hs).1], by rw [(Rr.nVal_ok hs).2.1, Bool.or_false]; exact sw.gives (N := [(0, _)]) (.cons rfl (.nil _))⟩)
                | (have hnone : Rr.numS r = none := by
                     rw [← hi.2.1]
                     first
                     | exact Rr.numG_brk (by omega)
                     | exact Rr.numG_big (by omega) (by omega)
                     | (rw [show i = 10 by omega]; exact Rr.numG_ten)
                   exact fun w1 sw => ⟨Ky.nil0, Rr.nUnd_no rv hnone, by rw [(Rr.nVal_no hnone).1], by rw [(Rr.nVal_no hnone).2.1, Bool.or_true]; exact sw.gives (N := [(0, _)]) (.cons rfl (.nil _))⟩)
              ·
                refine cd_skip ?_
                refine ax_then ?_
                refine At.regs (L' := [(0, _), (3, _), (4, _), (5, _), (6, _), (7, _), (8, _), (11, _), (12, _), (13, _), (14, _), (15, _), (16, _), (17, _), (18, _), (19, _), (20, _), (21, _), (22, _), (23, _), (24, _), (25, _), (26, _), (27, _), (28, _), (29, _), (30, _), (31, _), (32, _), (33, _), (34, _), (35, _), (36, _), (37, _), (38, _), (39, _), (40, _), (41, _), (42, _), (43, _), (44, _), (45, _), (46, _), (47, _), (48, _), (49, _), (50, _), (51, _), (52, _)]) (.cons rfl (.cons rfl (.cons rfl (.cons rfl (.cons rfl (.cons rfl (.cons rfl (.cons rfl (.cons rfl (.cons rfl (.cons rfl (.cons rfl (.cons rfl (.cons rfl (.cons rfl (.cons rfl (.cons rfl (.cons rfl (.cons rfl (.cons rfl (.cons rfl (.cons rfl (.cons rfl (.cons rfl (.cons rfl (.cons rfl (.cons rfl (.cons rfl (.cons rfl (.cons rfl (.cons rfl (.cons rfl (.cons rfl (.cons rfl (.cons rfl (.cons rfl (.cons rfl (.cons rfl (.cons rfl (.cons rfl (.cons rfl (.cons rfl (.cons rfl (.cons rfl (.cons rfl (.cons rfl (.cons rfl (.cons rfl (.cons rfl (.nil _)))))))))))))))))))))))))))))))))))))))))))))))))) ?_
                refine cd_seq ?_
                refine cd_region ?_
                refine st (ev_move rfl) rfl rfl rfl ?_
                have h9 : i ≠ 9 := by
                  intro h9
                  subst h9
                  have hc01 : c = 0 ∨ c = 1 := by omega
                  rcases hc01 with rfl | rfl
                  · omega
                  · have := Rr.acc_nine u
                    omega
                have hs : Rr.numS r = some (Rr.acc u c i, i + 1) := by rw [← hi.2.1]; exact Rr.numG_ok (by omega) (by omega) (by omega)
                have hrng := Rr.numS_spec hs
                have hrg1 : Rr.acc u c i ≤ 4611686018427387904 := hrng.2.1
                refine st (ev_conv64 Try.underlying135 Try.underlying3 rfl (by omega) (by omega)) rfl rfl rfl ?_
                refine st (ev_assign rfl) rfl rfl rfl ?_
                refine op_nil ?_
                refine ax_then ?_
                refine At.regs (L' := [(0, _), (2, _), (3, _), (4, _), (5, _), (6, _), (7, _), (8, _), (11, _), (12, _), (13, _), (14, _), (15, _), (16, _), (17, _), (18, _), (19, _), (20, _), (21, _), (22, _), (23, _), (24, _), (25, _), (26, _), (27, _), (28, _), (29, _), (30, _), (31, _), (32, _), (33, _), (34, _), (35, _), (36, _), (37, _), (38, _), (39, _), (40, _), (41, _), (42, _), (43, _), (44, _), (45, _), (46, _), (47, _), (48, _), (49, _), (50, _), (51, _), (52, _), (53, _), (54, _)]) (.cons rfl (.cons rfl (.cons rfl (.cons rfl (.cons rfl (.cons rfl (.cons rfl (.cons rfl (.cons rfl (.cons rfl (.cons rfl (.cons rfl (.cons rfl (.cons rfl (.cons rfl (.cons rfl (.cons rfl (.cons rfl (.cons rfl (.cons rfl (.cons rfl (.cons rfl (.cons rfl (.cons rfl (.cons rfl (.cons rfl (.cons rfl (.cons rfl (.cons rfl (.cons rfl (.cons rfl (.cons rfl (.cons rfl (.cons rfl (.cons rfl (.cons rfl (.cons rfl (.cons rfl (.cons rfl (.cons rfl (.cons rfl (.cons rfl (.cons rfl (.cons rfl (.cons rfl (.cons rfl (.cons rfl (.cons rfl (.cons rfl (.cons rfl (.cons rfl (.cons rfl (.nil _))))))))))))))))))))))))))))))))))))))))))))))))))))) ?_
                refine cd_ret ?_
                refine ax_block_ret ?_
                refine ax_then_ret ?_
                refine ax_then_ret ?_
                refine ax_block_ret ?_
                refine ax_then_ret ?_
                refine rt_tmp (.inl rfl) Try.results53 rfl ?_
                first
                | (have hrc : rc = [] := by
                     cases hbb : bad with
                     | true => exact hi.2.2.2.1 hbb
                     | false => rw [hbb] at hc16; exact Rr.rBad_1 hc16
                   have hnone : Rr.numS r = none := by rw [← hi.2.1, hrc]; rfl
                   exact fun w1 sw => ⟨vd, by rw [(Rr.nVal_no hnone).2.2, ← show Rr.rRest rc 1 = [] from by rw [hrc]; decide]; exact hi.2.2.1.trans hx12, by rw [(Rr.nVal_no hnone).1], by rw [(Rr.nVal_no hnone).2.1, Bool.or_true, ← hc16]; exact sw.gives (N := [(0, _)]) (.cons rfl (.nil _))⟩)
                | (exact fun w1 sw => ⟨vd, by rw [(Rr.nVal_ok hs).2.2, show r.drop (i + 1) = Rr.rRest (c :: t) 1 from by rw [hraw.2.1, ← htl]]; exact hi.2.2.1.trans hx12, by rw [(Rr.nVal_ok hs).1], by rw [(Rr.nVal_ok hs).2.1, Bool.or_false]; exact sw.gives (N := [(0, _)]) (.cons rfl (.nil _))⟩)
                | (have hnone : Rr.numS r = none := by
                     rw [← hi.2.1]
                     first
                     | exact Rr.numG_brk (by omega)
                     | exact Rr.numG_big (by omega) (by omega)
                     | (rw [show i = 10 by omega]; exact Rr.numG_ten)
                   exact fun w1 sw => ⟨Ky.nil0, Rr.nUnd_no rv hnone, by rw [(Rr.nVal_no hnone).1], by rw [(Rr.nVal_no hnone).2.1, Bool.or_true]; exact sw.gives (N := [(0, _)]) (.cons rfl (.nil _))⟩)
          ·
            refine st_skip rfl rfl rfl ?_
            refine st_skip rfl rfl rfl ?_
            refine st (ev_pick_f rfl rfl) rfl rfl rfl ?_
            refine st (ev_move rfl) rfl rfl rfl ?_
            refine st (ev_move rfl) rfl rfl rfl ?_
            refine st (ev_gtr rfl rfl) rfl rfl rfl ?_
            refine st (ev_pick_f rfl rfl) rfl rfl rfl ?_
            refine op_nil ?_
            refine ax_then ?_
            refine At.regs (L' := [(0, _), (3, _), (4, _), (5, _), (6, _), (7, _), (8, _), (11, _), (12, _), (13, _), (14, _), (15, _), (16, _), (17, _), (18, _), (19, _), (20, _), (21, _), (22, _), (23, _), (24, _), (25, _), (26, _), (27, _), (28, _), (29, _), (30, _), (31, _), (32, _), (33, _), (34, _), (35, _), (36, _), (37, _), (38, _), (39, _), (40, _), (41, _), (42, _), (43, _), (44, _), (45, _), (46, _), (47, _), (48, _), (49, _), (50, _), (51, _), (52, _)]) (.cons rfl (.cons rfl (.cons rfl (.cons rfl (.cons rfl (.cons rfl (.cons rfl (.cons rfl (.cons rfl (.cons rfl (.cons rfl (.cons rfl (.cons rfl (.cons rfl (.cons rfl (.cons rfl (.cons rfl (.cons rfl (.cons rfl (.cons rfl (.cons rfl (.cons rfl (.cons rfl (.cons rfl (.cons rfl (.cons rfl (.cons rfl (.cons rfl (.cons rfl (.cons rfl (.cons rfl (.cons rfl (.cons rfl (.cons rfl (.cons rfl (.cons rfl (.cons rfl (.cons rfl (.cons rfl (.cons rfl (.cons rfl (.cons rfl (.cons rfl (.cons rfl (.cons rfl (.cons rfl (.cons rfl (.cons rfl (.cons rfl (.nil _)))))))))))))))))))))))))))))))))))))))))))))))))) ?_
            refine cd_if rfl (fun hc52 => ?_) (fun hc52 => ?_)
            ·
              refine cd_exit ?_
              refine ax_then_exit ?_
              refine ax_block_miss (by decide) ?_
              refine ax_then_exit ?_
              refine ax_then_exit ?_
              refine ax_block_hit ?_
              refine ax_then ?_
              refine At.regs (L' := [(0, _)]) (.cons rfl (.nil _)) ?_
              refine cd_seq ?_
              refine cd_region ?_
              refine st (ev_move rfl) rfl rfl rfl ?_
              refine st_call has84 rfl (fun w1 sw => qbad_any b _ _ w1 (sw.blk_eq (h := 0) rfl)) (mod_blk rfl) rfl rfl (fun _ _ => ?_)
              refine op_nil ?_
              refine ax_then ?_
              refine At.regs (L' := []) (.nil _) ?_
              refine cd_seq ?_
              refine cd_region ?_
              refine st (ev_assign rfl) rfl rfl rfl ?_
              refine op_nil ?_
              refine ax_then ?_
              refine At.regs (L' := [(2, _)]) (.cons rfl (.nil _)) ?_
              refine cd_ret ?_
              refine rt_tmp (.inl rfl) Try.results53 rfl ?_
              first
              | (have hrc : rc = [] := by
                   cases hbb : bad with
                   | true => exact hi.2.2.2.1 hbb
                   | false => rw [hbb] at hc16; exact Rr.rBad_1 hc16
                 have hnone : Rr.numS r = none := by rw [← hi.2.1, hrc]; rfl
                 exact fun w1 sw => ⟨vd, by rw [(Rr.nVal_no hnone).2.2, ← show Rr.rRest rc 1 = [] from by rw [hrc]; decide]; exact hi.2.2.1.trans hx12, by rw [(Rr.nVal_no hnone).1], by rw [(Rr.nVal_no hnone).2.1, Bool.or_true, ← hc16]; exact sw.gives (N := [(0, _)]) (.cons rfl (.nil _))⟩)
              | (exact fun w1 sw => ⟨vd, by rw [(Rr.nVal_ok hs).2.2, show r.drop (i + 1) = Rr.rRest (c :: t) 1 from by rw [hraw.2.1, ← htl]]; exact hi.2.2.1.trans hx12, by rw [(Rr.nVal_ok hs).1], by rw [(Rr.nVal_ok hs).2.1, Bool.or_false]; exact sw.gives (N := [(0, _)]) (.cons rfl (.nil _))⟩)
              | (have hnone : Rr.numS r = none := by
                   rw [← hi.2.1]
                   first
                   | exact Rr.numG_brk (by omega)
                   | exact Rr.numG_big (by omega) (by omega)
                   | (rw [show i = 10 by omega]; exact Rr.numG_ten)
                 exact fun w1 sw => ⟨Ky.nil0, Rr.nUnd_no rv hnone, by rw [(Rr.nVal_no hnone).1], by rw [(Rr.nVal_no hnone).2.1, Bool.or_true]; exact sw.gives (N := [(0, _)]) (.cons rfl (.nil _))⟩)
            ·
              refine cd_skip ?_
              refine ax_then ?_
              refine At.regs (L' := [(0, _), (3, _), (4, _), (5, _), (6, _), (7, _), (8, _), (11, _), (12, _), (13, _), (14, _), (15, _), (16, _), (17, _), (18, _), (19, _), (20, _), (21, _), (22, _), (23, _), (24, _), (25, _), (26, _), (27, _), (28, _), (29, _), (30, _), (31, _), (32, _), (33, _), (34, _), (35, _), (36, _), (37, _), (38, _), (39, _), (40, _), (41, _), (42, _), (43, _), (44, _), (45, _), (46, _), (47, _), (48, _), (49, _), (50, _), (51, _), (52, _)]) (.cons rfl (.cons rfl (.cons rfl (.cons rfl (.cons rfl (.cons rfl (.cons rfl (.cons rfl (.cons rfl (.cons rfl (.cons rfl (.cons rfl (.cons rfl (.cons rfl (.cons rfl (.cons rfl (.cons rfl (.cons rfl (.cons rfl (.cons rfl (.cons rfl (.cons rfl (.cons rfl (.cons rfl (.cons rfl (.cons rfl (.cons rfl (.cons rfl (.cons rfl (.cons rfl (.cons rfl (.cons rfl (.cons rfl (.cons rfl (.cons rfl (.cons rfl (.cons rfl (.cons rfl (.cons rfl (.cons rfl (.cons rfl (.cons rfl (.cons rfl (.cons rfl (.cons rfl (.cons rfl (.cons rfl (.cons rfl (.cons rfl (.nil _)))))))))))))))))))))))))))))))))))))))))))))))))) ?_
              refine cd_seq ?_
              refine cd_region ?_
              refine st (ev_move rfl) rfl rfl rfl ?_
              have h9 : i ≠ 9 := by
                intro h9
                subst h9
                have hc01 : c = 0 ∨ c = 1 := by omega
                rcases hc01 with rfl | rfl
                · omega
                · have := Rr.acc_nine u
                  omega
              have hs : Rr.numS r = some (Rr.acc u c i, i + 1) := by rw [← hi.2.1]; exact Rr.numG_ok (by omega) (by omega) (by omega)
              have hrng := Rr.numS_spec hs
              have hrg1 : Rr.acc u c i ≤ 4611686018427387904 := hrng.2.1
              refine st (ev_conv64 Try.underlying135 Try.underlying3 rfl (by omega) (by omega)) rfl rfl rfl ?_
              refine st (ev_assign rfl) rfl rfl rfl ?_
              refine op_nil ?_
              refine ax_then ?_
              refine At.regs (L' := [(0, _), (2, _), (3, _), (4, _), (5, _), (6, _), (7, _), (8, _), (11, _), (12, _), (13, _), (14, _), (15, _), (16, _), (17, _), (18, _), (19, _), (20, _), (21, _), (22, _), (23, _), (24, _), (25, _), (26, _), (27, _), (28, _), (29, _), (30, _), (31, _), (32, _), (33, _), (34, _), (35, _), (36, _), (37, _), (38, _), (39, _), (40, _), (41, _), (42, _), (43, _), (44, _), (45, _), (46, _), (47, _), (48, _), (49, _), (50, _), (51, _), (52, _), (53, _), (54, _)]) (.cons rfl (.cons rfl (.cons rfl (.cons rfl (.cons rfl (.cons rfl (.cons rfl (.cons rfl (.cons rfl (.cons rfl (.cons rfl (.cons rfl (.cons rfl (.cons rfl (.cons rfl (.cons rfl (.cons rfl (.cons rfl (.cons rfl (.cons rfl (.cons rfl (.cons rfl (.cons rfl (.cons rfl (.cons rfl (.cons rfl (.cons rfl (.cons rfl (.cons rfl (.cons rfl (.cons rfl (.cons rfl (.cons rfl (.cons rfl (.cons rfl (.cons rfl (.cons rfl (.cons rfl (.cons rfl (.cons rfl (.cons rfl (.cons rfl (.cons rfl (.cons rfl (.cons rfl (.cons rfl (.cons rfl (.cons rfl (.cons rfl (.cons rfl (.cons rfl (.cons rfl (.nil _))))))))))))))))))))))))))))))))))))))))))))))))))))) ?_
              refine cd_ret ?_
              refine ax_block_ret ?_
              refine ax_then_ret ?_
              refine ax_then_ret ?_
              refine ax_block_ret ?_
              refine ax_then_ret ?_
              refine rt_tmp (.inl rfl) Try.results53 rfl ?_
              first
              | (have hrc : rc = [] := by
                   cases hbb : bad with
                   | true => exact hi.2.2.2.1 hbb
                   | false => rw [hbb] at hc16; exact Rr.rBad_1 hc16
                 have hnone : Rr.numS r = none := by rw [← hi.2.1, hrc]; rfl
                 exact fun w1 sw => ⟨vd, by rw [(Rr.nVal_no hnone).2.2, ← show Rr.rRest rc 1 = [] from by rw [hrc]; decide]; exact hi.2.2.1.trans hx12, by rw [(Rr.nVal_no hnone).1], by rw [(Rr.nVal_no hnone).2.1, Bool.or_true, ← hc16]; exact sw.gives (N := [(0, _)]) (.cons rfl (.nil _))⟩)
              | (exact fun w1 sw => ⟨vd, by rw [(Rr.nVal_ok hs).2.2, show r.drop (i + 1) = Rr.rRest (c :: t) 1 from by rw [hraw.2.1, ← htl]]; exact hi.2.2.1.trans hx12, by rw [(Rr.nVal_ok hs).1], by rw [(Rr.nVal_ok hs).2.1, Bool.or_false]; exact sw.gives (N := [(0, _)]) (.cons rfl (.nil _))⟩)
              | (have hnone : Rr.numS r = none := by
                   rw [← hi.2.1]
                   first
                   | exact Rr.numG_brk (by omega)
                   | exact Rr.numG_big (by omega) (by omega)
                   | (rw [show i = 10 by omega]; exact Rr.numG_ten)
                 exact fun w1 sw => ⟨Ky.nil0, Rr.nUnd_no rv hnone, by rw [(Rr.nVal_no hnone).1], by rw [(Rr.nVal_no hnone).2.1, Bool.or_true]; exact sw.gives (N := [(0, _)]) (.cons rfl (.nil _))⟩)
  ·
    refine cd_exit ?_
    refine ax_then_exit ?_
    refine ax_then_exit ?_
    refine ax_block_hit ?_
    refine ax_then ?_
    refine At.regs (L' := [(0, _)]) (.cons rfl (.nil _)) ?_
    refine cd_seq ?_
    refine cd_region ?_
    refine st (ev_move rfl) rfl rfl rfl ?_
    refine st_call has84 rfl (fun w1 sw => qbad_any b _ _ w1 (sw.blk_eq (h := 0) rfl)) (mod_blk rfl) rfl rfl (fun _ _ => ?_)
    refine op_nil ?_
    refine ax_then ?_
    refine At.regs (L' := []) (.nil _) ?_
    refine cd_seq ?_
    refine cd_region ?_
    refine st (ev_assign rfl) rfl rfl rfl ?_
    refine op_nil ?_
    refine ax_then ?_
    refine At.regs (L' := [(2, _)]) (.cons rfl (.nil _)) ?_
    refine cd_ret ?_
    refine rt_tmp (.inl rfl) Try.results53 rfl ?_
    first
    | (have hrc : rc = [] := by
         cases hbb : bad with
         | true => exact hi.2.2.2.1 hbb
         | false => rw [hbb] at hc16; exact Rr.rBad_1 hc16
       have hnone : Rr.numS r = none := by rw [← hi.2.1, hrc]; rfl
       exact fun w1 sw => ⟨vd, by rw [(Rr.nVal_no hnone).2.2, ← show Rr.rRest rc 1 = [] from by rw [hrc]; decide]; exact hi.2.2.1.trans hx12, by rw [(Rr.nVal_no hnone).1], by rw [(Rr.nVal_no hnone).2.1, Bool.or_true, ← hc16]; exact sw.gives (N := [(0, _)]) (.cons rfl (.nil _))⟩)
    | (exact fun w1 sw => ⟨vd, by rw [(Rr.nVal_ok hs).2.2, show r.drop (i + 1) = Rr.rRest (c :: t) 1 from by rw [hraw.2.1, ← htl]]; exact hi.2.2.1.trans hx12, by rw [(Rr.nVal_ok hs).1], by rw [(Rr.nVal_ok hs).2.1, Bool.or_false]; exact sw.gives (N := [(0, _)]) (.cons rfl (.nil _))⟩)
    | (have hnone : Rr.numS r = none := by
         rw [← hi.2.1]
         first
         | exact Rr.numG_brk (by omega)
         | exact Rr.numG_big (by omega) (by omega)
         | (rw [show i = 10 by omega]; exact Rr.numG_ten)
       exact fun w1 sw => ⟨Ky.nil0, Rr.nUnd_no rv hnone, by rw [(Rr.nVal_no hnone).1], by rw [(Rr.nVal_no hnone).2.1, Bool.or_true]; exact sw.gives (N := [(0, _)]) (.cons rfl (.nil _))⟩)
set_option maxRecDepth 20000 in
set_option maxHeartbeats 1000000 in
theorem qwhole_any (b : Nat) (rv : Value) (bad : Bool) (r : List Int) (w : World) (h : Lies w b 0 [rv, .bool bad]) (h' : Rd w rv 1 (ints .u8 r)) : Calls Try.prog 54 #[.pointer (some ⟨b, 0, none⟩)] w (PostV w (.bool (!bad && decide (r.length = 0)))) := by
  refine calls_at (vs := [.pointer (some ⟨b, 0, none⟩)]) (X := []) (H := []) (F := [(21, .mem b 0 [rv, .bool bad]), (20, .sl (rv) 1 (ints .u8 (r)))]) 16 Try.func54 rfl rfl rfl ((Sat.rd0 20 h').read 21 h off_nil) ?_
  refine cd_seq ?_
  refine cd_region ?_
  refine st (ev_assign rfl) rfl rfl rfl ?_
  refine op_nil ?_
  refine ax_then ?_
  refine At.regs (L' := [(0, _), (2, _)]) (.cons rfl (.cons rfl (.nil _))) ?_
  refine cd_seq ?_
  refine cd_region ?_
  refine st (ev_move rfl) rfl rfl rfl ?_
  refine st (ev_nilCheck rfl) rfl rfl rfl ?_
  refine st (ev_fieldAddr (b := _) Try.underlying112 (f := _) rfl ty4 (by decide) rfl) rfl rfl rfl ?_
  refine st (ld_mem1 (h := 21) ty4 rfl rfl rfl (Nat.zero_add _).symm rfl) rfl rfl rfl ?_
  refine st (ev_not rfl) rfl rfl rfl ?_
  refine st (ev_move rfl) rfl rfl rfl ?_
  refine at_split (i := 8) rfl (fun hg8 => ?_) (fun hg8 => ?_)
  ·
    refine st (ev_move rfl) rfl rfl rfl ?_
    refine st (ev_nilCheck rfl) rfl rfl rfl ?_
    refine st (ev_fieldAddr (b := _) Try.underlying112 (f := _) rfl ty28 (by decide) rfl) rfl rfl rfl ?_
    refine st (ld_mem1 (h := 21) ty28 rfl rfl rfl (Nat.zero_add _).symm rfl) rfl rfl rfl ?_
    refine st (ev_len_rdi (h := 20) Try.underlying28 rfl rfl) rfl rfl rfl ?_
    refine st (ev_eql rfl rfl) rfl rfl rfl ?_
    refine st (ev_pick_t rfl rfl) rfl rfl rfl ?_
    refine st (ev_assign rfl) rfl rfl rfl ?_
    refine op_nil ?_
    refine ax_then ?_
    refine At.regs (L' := [(2, _)]) (.cons rfl (.nil _)) ?_
    refine cd_ret ?_
    refine rt_tmp (.inl rfl) Try.results54 rfl ?_
    exact fun w1 sw => ⟨congrArg (fun b => Ending.returned (Value.bool b)) (by cases bad <;> first | rfl | (rw [Bool.not_false, Bool.true_and]; exact decide_eq_decide.2 (by omega)) | simp_all), sw.gives (.nil _)⟩
  ·
    refine st_skip rfl rfl rfl ?_
    refine st_skip rfl rfl rfl ?_
    refine st_skip rfl rfl rfl ?_
    refine st_skip rfl rfl rfl ?_
    refine st_skip rfl rfl rfl ?_
    refine st_skip rfl rfl rfl ?_
    refine st (ev_pick_f rfl rfl) rfl rfl rfl ?_
    refine st (ev_assign rfl) rfl rfl rfl ?_
    refine op_nil ?_
    refine ax_then ?_
    refine At.regs (L' := [(2, _)]) (.cons rfl (.nil _)) ?_
    refine cd_ret ?_
    refine rt_tmp (.inl rfl) Try.results54 rfl ?_
    exact fun w1 sw => ⟨congrArg (fun b => Ending.returned (Value.bool b)) (by cases bad <;> first | rfl | (rw [Bool.not_false, Bool.true_and]; exact decide_eq_decide.2 (by omega)) | simp_all), sw.gives (.nil _)⟩
end Go.Proofs.Ytgfnmolbagilmaa

namespace Go.Proofs.Ytgfnmolbagilmaa.Qm
open Go Fw Sha Ots Mk Go.Proofs.Ytgfnmolbagilmaa
set_option linter.unusedSimpArgs false
set_option linter.unusedVariables false
theorem mem_who (body : List Int) (ms : List Mark) (ks : List (List Int)) (h : List Int) : h ∈ who body ms ks ↔ h ∈ ks ∧ some4 body ms h := by
  have key : ∀ n, n ≤ ks.length → (h ∈ who body ms (ks.take n) ↔ h ∈ ks.take n ∧ some4 body ms h) := by
    intro n
    induction n with
    | zero => intro _; rw [List.take_zero]; exact ⟨fun hh => (by cases hh), fun hh => (by cases hh.1)⟩
    | succ n ih =>
      intro hn
      have ih := ih (by omega)
      rw [List.take_succ_eq_append_getElem (by omega), who_snoc]
      split
      · next hc =>
        rw [List.mem_append, List.mem_append, List.mem_singleton, ih]
        constructor
        · rintro (hh | rfl)
          · exact ⟨.inl hh.1, hh.2⟩
          · exact ⟨.inr rfl, hc.2⟩
        · rintro ⟨hh | hh, h2⟩
          · exact .inl ⟨hh, h2⟩
          · exact .inr hh
      · next hc =>
        rw [List.mem_append, List.mem_singleton, ih]
        constructor
        · rintro ⟨h1, h2⟩; exact ⟨.inl h1, h2⟩
        · rintro ⟨hh | rfl, h2⟩
          · exact ⟨hh, h2⟩
          · have h3 := Classical.byContradiction fun h4 => hc ⟨h4, h2⟩
            exact ih.1 h3
  have := key ks.length (Nat.le_refl _)
  rwa [List.take_length] at this
def someN (body : List Int) (ms : List Mark) (h : List Int) (n : Nat) : Prop := ∃ x, x ∈ ms.take n ∧ hits h body x
instance (body : List Int) (ms : List Mark) (h : List Int) (n : Nat) : Decidable (someN body ms h n) := by unfold someN; infer_instance
theorem someN_succ (body : List Int) {ms : List Mark} (h : List Int) {n : Nat} (hn : n < ms.length) : someN body ms h (n + 1) ↔ someN body ms h n ∨ hits h body ms[n] := by
  unfold someN
  rw [List.take_succ_eq_append_getElem hn]
  constructor
  · rintro ⟨x, hx, hh⟩
    rcases List.mem_append.1 hx with hx | hx
    · exact .inl ⟨x, hx, hh⟩
    · rw [List.mem_singleton.1 hx] at hh; exact .inr hh
  · rintro (⟨x, hx, hh⟩ | hh)
    · exact ⟨x, List.mem_append_left _ hx, hh⟩
    · exact ⟨_, List.mem_append_right _ (List.mem_singleton.2 rfl), hh⟩
theorem someN_zero (body : List Int) (ms : List Mark) (h : List Int) : ¬ someN body ms h 0 := by
  rintro ⟨x, hx, _⟩
  rw [List.take_zero] at hx
  cases hx
def fnd (body : List Int) (ms : List Mark) (ks : List (List Int)) (i j : Nat) : Prop := ks.getD i [] ∈ ks.take i ∨ someN body ms (ks.getD i []) j
instance (body : List Int) (ms : List Mark) (ks : List (List Int)) (i j : Nat) : Decidable (fnd body ms ks i j) := by unfold fnd; infer_instance
def lw (body : List Int) (ms : List Mark) (ks : List (List Int)) (i j : Nat) : List (List Int) := if ks.getD i [] ∉ ks.take i ∧ someN body ms (ks.getD i []) j then who body ms (ks.take i) ++ [ks.getD i []] else who body ms (ks.take i)
theorem lw_zero (body : List Int) (ms : List Mark) (ks : List (List Int)) (i : Nat) : lw body ms ks i 0 = who body ms (ks.take i) := by
  rw [lw, if_neg fun hh => someN_zero _ _ _ hh.2]
theorem fnd_zero (body : List Int) (ms : List Mark) (ks : List (List Int)) (i : Nat) : fnd body ms ks i 0 ↔ ks.getD i [] ∈ ks.take i := ⟨fun h => h.resolve_right (someN_zero _ _ _), .inl⟩
theorem lw_hit {body : List Int} {ms : List Mark} {ks : List (List Int)} {i j : Nat} (hn : ¬ fnd body ms ks i j) (hj : j < ms.length) (hh : hits (ks.getD i []) body ms[j]) : lw body ms ks i (j + 1) = lw body ms ks i j ++ [ks.getD i []] ∧ fnd body ms ks i (j + 1) := by
  have h1 := (someN_succ body (ks.getD i []) hj).2 (.inr hh)
  have h2 : ks.getD i [] ∉ ks.take i := fun h => hn (.inl h)
  have h3 : ¬ someN body ms (ks.getD i []) j := fun h => hn (.inr h)
  exact ⟨by rw [lw, if_pos ⟨h2, h1⟩, lw, if_neg fun h => h3 h.2], .inr h1⟩
theorem lw_miss {body : List Int} {ms : List Mark} {ks : List (List Int)} {i j : Nat} (hj : j < ms.length) (hh : ¬ hits (ks.getD i []) body ms[j]) : lw body ms ks i (j + 1) = lw body ms ks i j ∧ (fnd body ms ks i (j + 1) ↔ fnd body ms ks i j) := by
  have h1 : someN body ms (ks.getD i []) (j + 1) ↔ someN body ms (ks.getD i []) j := (someN_succ body (ks.getD i []) hj).trans ⟨fun h => h.resolve_right hh, .inl⟩
  refine ⟨?_, by rw [fnd, fnd, h1]⟩
  rw [lw, lw]
  by_cases h2 : ks.getD i [] ∉ ks.take i ∧ someN body ms (ks.getD i []) j
  · rw [if_pos h2, if_pos ⟨h2.1, h1.2 h2.2⟩]
  · rw [if_neg h2, if_neg fun h => h2 ⟨h.1, h1.1 h.2⟩]
theorem lw_end {body : List Int} {ms : List Mark} {ks : List (List Int)} {i j : Nat} (hi : i < ks.length) (h4 : j ≤ 4) (h : ms.length ≤ j ∨ 4 ≤ j ∨ fnd body ms ks i j) : lw body ms ks i j = who body ms (ks.take (i + 1)) := by
  have hg : ks[i] = ks.getD i [] := by rw [List.getD_eq_getElem?_getD, List.getElem?_eq_getElem hi]; rfl
  rw [List.take_succ_eq_append_getElem hi, who_snoc, hg, lw]
  have up : someN body ms (ks.getD i []) j → some4 body ms (ks.getD i []) := by
    rintro ⟨x, hx, hh⟩
    refine ⟨x, ?_, hh⟩
    have : ms.take j = (ms.take 4).take j := by rw [List.take_take, Nat.min_eq_left h4]
    rw [this] at hx
    exact List.mem_of_mem_take hx
  by_cases hm : ks.getD i [] ∈ ks.take i
  · rw [if_neg fun hh => hh.1 hm, if_neg]
    rintro ⟨h1, h2⟩
    exact h1 ((mem_who _ _ _ _).2 ⟨hm, h2⟩)
  · have h1 : ks.getD i [] ∉ who body ms (ks.take i) := fun hh => hm ((mem_who _ _ _ _).1 hh).1
    have h2 : someN body ms (ks.getD i []) j ↔ some4 body ms (ks.getD i []) := by
      refine ⟨up, fun hs => ?_⟩
      rcases h with h | h | h
      · obtain ⟨x, hx, hh⟩ := hs
        exact ⟨x, by rw [List.take_of_length_le h]; exact List.mem_of_mem_take hx, hh⟩
      · obtain rfl : j = 4 := by omega
        exact hs
      · exact h.resolve_left hm
    by_cases h3 : some4 body ms (ks.getD i [])
    · rw [if_pos ⟨hm, h2.2 h3⟩, if_pos ⟨h1, h3⟩]
    · rw [if_neg fun hh => h3 (h2.1 hh.2), if_neg fun hh => h3 hh.2]
theorem mem_take_succ {ks : List (List Int)} {j : Nat} (hj : j < ks.length) (h : List Int) : h ∈ ks.take (j + 1) ↔ h ∈ ks.take j ∨ ks.getD j [] = h := by
  have hg : ks[j] = ks.getD j [] := by rw [List.getD_eq_getElem?_getD, List.getElem?_eq_getElem hj]; rfl
  rw [List.take_succ_eq_append_getElem hj, List.mem_append, List.mem_singleton, hg]
  exact or_congr Iff.rfl ⟨Eq.symm, Eq.symm⟩
theorem lw_h32 {body : List Int} {ms : List Mark} {ks : List (List Int)} (hu : H32 ks) {i j : Nat} (hi : i < ks.length) : H32 (lw body ms ks i j) ∧ (lw body ms ks i j).length ≤ i + 1 := by
  have hw := who_h32 body ms (hu.take i)
  have h1 : (ks.take i).length ≤ i := by rw [List.length_take]; omega
  rw [lw]
  split
  · exact ⟨hw.1.snoc (hu.get hi), by rw [List.length_append]; simp; omega⟩
  · exact ⟨hw.1, by omega⟩
theorem eqK_not {ks : List (List Int)} {need : Int} {i j : Nat} (hj : j < i) (hi : i < ks.length) (h : ks.getD i [] = ks.getD j []) : ¬ isK ks need := fun hh => by
  have h1 : outK ks need (i + 1) := ⟨hh.2, fun a ha => hh.1 a (by omega)⟩
  exact ((innK_all hi).2 h1).2 j hj h
theorem mflat_key {ms : List Mark} {i : Nat} (h : AOk ms) (hi : i < ms.length) : ((mflat ms).drop (i * 35 + 0)).take 32 = ints .u8 ms[i].key := by
  have h1 := mflat_get h hi
  have h2 := mkey (h ms[i] (List.getElem_mem hi))
  rw [← h1, List.drop_take, List.take_take, List.drop_drop] at h2
  exact h2
theorem mflat_sig {ms : List Mark} {i : Nat} (h : AOk ms) (hi : i < ms.length) : ((mflat ms).drop (i * 35 + 32)).take 3 = [.int .i64 ms[i].leaf, ms[i].vc, ms[i].vp] := by
  have h1 := mflat_get h hi
  have h2 := msig (h ms[i] (List.getElem_mem hi))
  rw [← h1, List.drop_take, List.take_take, List.drop_drop] at h2
  exact h2
end Go.Proofs.Ytgfnmolbagilmaa.Qm
