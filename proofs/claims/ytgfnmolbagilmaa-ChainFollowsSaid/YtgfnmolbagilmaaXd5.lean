/- The statement's proof, part 5: what its walks and its plain laws need. -/
import Derived.Test.YtgfnmolbagilmaaRows
import Derived.Tactics
import Derived.Deep.Quiet
import Derived.StillTail
import Derived.Laws.World
import Derived.Laws.Sem
import Derived.Laws.Entries
import Derived.Below
import Derived.Deep.LoopGhost
import Derived.Laws.BytesString
import Derived.Laws.IdiomStrings
import Derived.KernelRfl
import Derived.Carry
import Derived.OpenShut
import Derived.ProofKit
import Derived.ChangeSame
import Derived.HandedShaped
import Derived.SizedLaws
import Derived.Test.YtgfnmolbagilmaaProg
import Derived.Laws.Strings
import Derived.Test.YtgfnmolbagilmaaXd4
namespace Go.Proofs.Ytgfnmolbagilmaa
open Go Go.RowKit Fw
open Sha
open Ots
open Mk
set_option linter.unusedVariables false
set_option linter.unusedSimpArgs false
set_option maxRecDepth 20000 in
set_option maxHeartbeats 4000000 in
theorem rnum_g (b : Nat) (rv : Value) (bad : Bool) (r : List Int) (w : World) (hb : w.heap[b]? = some (.cells (List.toArray [rv, .bool bad]) 139)) (h : Rd w rv 1 (ints .u8 r)) (ho : FE.off b (.sl rv 1 (ints .u8 r))) (hr : r.length ≤ 140737488352000) : Calls Try.prog 51 #[.pointer (some ⟨b, 0, none⟩)] w (Post (ι := Value) w [b] (fun x => Rr.Und rv r x (Rr.nRest r)) (fun _ => .int .i64 (Rr.nVal r)) (fun x => [(0, .blk (b) (.cells ([x, .bool (bad || Rr.nBad r)]).toArray 139))])) := by
  refine calls_at (vs := [.pointer (some ⟨b, 0, none⟩)]) (X := [b]) (H := [(0, .blk (b) (.cells ([rv, .bool (bad)]).toArray 139))]) (F := [(1, .sl rv 1 (ints .u8 r))]) 55 Try.func51 rfl rfl rfl ((Sat.blkX 0 hb).readb (f := .sl rv 1 (ints .u8 r)) 1 h ho) ?_
  refine cd_seq ?_
  refine cd_region ?_
  refine st (ev_assign rfl) rfl rfl rfl ?_
  refine op_nil ?_
  refine ax_then ?_
  refine At.regs (L' := [(0, _), (2, _)]) (.cons rfl (.cons rfl (.nil _))) ?_
  refine cd_seq ?_
  refine cd_seq ?_
  refine cd_region ?_
  refine st (ev_move rfl) rfl rfl rfl ?_
  refine st (ev_eql_ptr_nil Try.underlying107 rfl rfl) rfl rfl rfl ?_
  refine op_nil ?_
  refine ax_then ?_
  refine At.regs (L' := [(0, _), (2, _), (7, _)]) (.cons rfl (.cons rfl (.cons rfl (.nil _)))) ?_
  refine cd_false rfl ?_
  refine cd_skip ?_
  refine ax_then ?_
  refine At.regs (L' := [(0, _), (2, _)]) (.cons rfl (.cons rfl (.nil _))) ?_
  refine cd_seq ?_
  refine cd_region ?_
  refine st (ev_assign rfl) rfl rfl rfl ?_
  refine op_nil ?_
  refine ax_then ?_
  refine At.regs (L' := [(0, _), (2, _), (3, _)]) (.cons rfl (.cons rfl (.cons rfl (.nil _)))) ?_
  refine cd_seq ?_
  refine cd_seq ?_
  refine cd_region ?_
  refine st (ev_move rfl) rfl rfl rfl ?_
  refine st (ev_nilCheck rfl) rfl rfl rfl ?_
  refine st (ev_fieldAddr (b := _) Try.underlying139 (f := _) rfl ty28 (by decide) rfl) rfl rfl rfl ?_
  refine st (ld_blk1 (h := 0) ty28 rfl rfl rfl rfl) rfl rfl rfl ?_
  refine st (ev_len_rdi (h := 1) Try.underlying28 rfl rfl) rfl rfl rfl ?_
  refine st (ev_move rfl) rfl rfl rfl ?_
  refine op_nil ?_
  refine ax_then ?_
  refine At.regs (L' := [(0, _), (2, _), (3, _), (11, _), (12, _), (13, _)]) (.cons rfl (.cons rfl (.cons rfl (.cons rfl (.cons rfl (.cons rfl (.nil _))))))) ?_
  refine cd_block ?_
  refine cd_loop (ι := Nat × Int) (fun x => x.1 ≤ r.length ∧ Rr.numG x.1 x.2 (r.drop x.1) = Rr.numS r) (fun x => r.length - x.1)
      (fun x => [(0, .pointer (some ⟨b, 0, none⟩)), (3, .int .u64 x.2), (11, rv), (12, .int .i64 (r.length : Nat)), (13, .int .i64 (x.1 : Int))])
      (fun x => [(0, .blk (b) (.cells ([rv, .bool (bad)]).toArray 139))])
      (fun x => [(1, .sl rv 1 (ints .u8 r))])
      (0, 0) (⟨by omega, by rw [List.drop_zero]; rfl⟩) (.cons rfl (.cons rfl (.cons rfl (.cons rfl (.cons rfl (.nil _)))))) (.cons rfl (.nil _)) (.cons rfl (.nil _)) (fun x hi => ?_)
  obtain ⟨i, u⟩ := x
  dsimp only at hi ⊢
  have hi1 := hi.1
  refine cd_seq ?_
  refine cd_region ?_
  refine st (ev_lss rfl rfl) rfl rfl rfl ?_
  refine op_nil ?_
  refine ax_then ?_
  refine At.regs (L' := [(0, _), (3, _), (11, _), (12, _), (13, _), (14, _)]) (.cons rfl (.cons rfl (.cons rfl (.cons rfl (.cons rfl (.cons rfl (.nil _))))))) ?_
  refine cd_seq ?_
  refine cd_if rfl (fun hc14 => ?_) (fun hc14 => ?_)
  ·
    have hlt : i < r.length := by omega
    have hd0 := Rr.drop_head hlt
    obtain ⟨c, hc⟩ : ∃ c, c = r.getD i 0 := ⟨_, rfl⟩
    have hd : r.drop i = c :: r.drop (i + 1) := by rw [hc]; exact hd0
    refine cd_skip ?_
    refine ax_then ?_
    refine At.regs (L' := [(0, _), (3, _), (11, _), (12, _), (13, _), (14, _)]) (.cons rfl (.cons rfl (.cons rfl (.cons rfl (.cons rfl (.cons rfl (.nil _))))))) ?_
    refine cd_seq ?_
    refine cd_block ?_
    refine cd_seq ?_
    refine cd_region ?_
    refine st (ev_move rfl) rfl rfl rfl ?_
    refine st (ev_indexAddr_rdi (h := 1) Try.underlying28 ty5 rfl rfl rfl (by omega) (by first | omega | (simp only [List.length_append, List.length_cons, List.length_nil, List.length_set, List.length_replicate, List.length_take, List.length_drop, ints_length, wr_length, sha_len, node_len, recov_len, Ky.named_len, Ky.keyPub_len, Ky.hashOf_len] <;> omega))) rfl rfl rfl ?_
    refine st (ld_rd1 (h := 1) ty5 rfl rfl rfl (ints_get _ _ _ (by first | omega | (simp only [List.length_append, List.length_cons, List.length_nil, List.length_set, List.length_replicate, List.length_take, List.length_drop, ints_length, wr_length, sha_len, node_len, recov_len, Ky.named_len, Ky.keyPub_len, Ky.hashOf_len] <;> omega) | rfl))) rfl rfl rfl ?_
    refine at_eq (i := 17) (v' := .int .u8 c) rfl (by rw [hc, Int.toNat_natCast]) ?_
    refine st (ev_assign rfl) rfl rfl rfl ?_
    refine st (ev_assign rfl) rfl rfl rfl ?_
    refine op_nil ?_
    refine ax_then ?_
    refine At.regs (L' := [(0, _), (3, _), (4, _), (5, _), (11, _), (12, _), (13, _), (14, _), (15, _), (16, _), (17, _)]) (.cons rfl (.cons rfl (.cons rfl (.cons rfl (.cons rfl (.cons rfl (.cons rfl (.cons rfl (.cons rfl (.cons rfl (.cons rfl (.nil _)))))))))))) ?_
    refine cd_seq ?_
    refine cd_seq ?_
    refine cd_region ?_
    refine st (ev_move rfl) rfl rfl rfl ?_
    refine st (ev_geq rfl rfl) rfl rfl rfl ?_
    refine st (ev_move rfl) rfl rfl rfl ?_
    refine at_split_if (i := 20) rfl (fun hg20 => ?_) (fun hg20 => ?_)
    ·
      refine st_skip rfl rfl rfl ?_
      refine st_skip rfl rfl rfl ?_
      refine st_skip rfl rfl rfl ?_
      refine st_skip rfl rfl rfl ?_
      refine st_skip rfl rfl rfl ?_
      refine st_skip rfl rfl rfl ?_
      refine st (ev_pick_t rfl rfl) rfl rfl rfl ?_
      refine op_nil ?_
      refine ax_then ?_
      refine At.regs (L' := [(0, _), (3, _), (4, _), (5, _), (11, _), (12, _), (13, _), (14, _), (15, _), (16, _), (17, _), (18, _), (19, _), (20, _), (21, _), (22, _), (23, _), (24, _), (25, _), (26, _), (27, _)]) (.cons rfl (.cons rfl (.cons rfl (.cons rfl (.cons rfl (.cons rfl (.cons rfl (.cons rfl (.cons rfl (.cons rfl (.cons rfl (.cons rfl (.cons rfl (.cons rfl (.cons rfl (.cons rfl (.cons rfl (.cons rfl (.cons rfl (.cons rfl (.cons rfl (.nil _)))))))))))))))))))))) ?_
      refine cd_true rfl ?_
      refine cd_exit ?_
      refine ax_then_exit ?_
      refine ax_block_miss (by decide) ?_
      refine ax_then_exit ?_
      refine ax_then_exit ?_
      refine ax_block_hit ?_
      refine ax_then ?_
      refine At.regs (L' := [(0, _)]) (.cons rfl (.nil _)) ?_
      refine cd_seq ?_
      refine cd_region ?_
      refine st (ev_move rfl) rfl rfl rfl ?_
      refine st_call has81 rfl (fun w1 sw => rbad_any b rv bad w1 (sw.blk_eq (h := 0) rfl)) (mod_blk rfl) rfl rfl (fun _ _ => ?_)
      refine op_nil ?_
      refine ax_then ?_
      refine At.regs (L' := []) (.nil _) ?_
      refine cd_seq ?_
      refine cd_region ?_
      refine st (ev_assign rfl) rfl rfl rfl ?_
      refine op_nil ?_
      refine ax_then ?_
      refine At.regs (L' := [(2, _)]) (.cons rfl (.nil _)) ?_
      refine cd_ret ?_
      refine rt_tmp (.inl rfl) Try.results51 rfl ?_
      first
      | (exact fun w1 sw => ⟨cutAt 1 rv (i + 1) r.length, Rr.nUnd_ok rv hs, by rw [(Rr.nVal_ok hs).1], by rw [(Rr.nVal_ok hs).2.1, Bool.or_false]; exact sw.gives (N := [(0, _)]) (.cons rfl (.nil _))⟩)
      | (have hnone : Rr.numS r = none := by
           rw [← hi.2]
           first
           | (rw [show i = r.length by omega, List.drop_length]; rfl)
           | (rw [hd]; first | exact Rr.numG_brk (by omega) | exact Rr.numG_big (by omega) (by omega))
         exact fun w1 sw => ⟨Ky.nil0, Rr.nUnd_no rv hnone, by rw [(Rr.nVal_no hnone).1], by rw [(Rr.nVal_no hnone).2.1, Bool.or_true]; exact sw.gives (N := [(0, _)]) (.cons rfl (.nil _))⟩)
    ·
      refine st (ev_move rfl) rfl rfl rfl ?_
      refine st (ev_gtr rfl rfl) rfl rfl rfl ?_
      refine st (ev_move rfl) rfl rfl rfl ?_
      refine at_split_if (i := 23) rfl (fun hg23 => ?_) (fun hg23 => ?_)
      ·
        refine st (ev_move rfl) rfl rfl rfl ?_
        refine st (ev_eql rfl rfl) rfl rfl rfl ?_
        refine st (ev_pick_t rfl rfl) rfl rfl rfl ?_
        refine st (ev_pick_f rfl rfl) rfl rfl rfl ?_
        refine op_nil ?_
        refine ax_then ?_
        refine At.regs (L' := [(0, _), (3, _), (4, _), (5, _), (11, _), (12, _), (13, _), (14, _), (15, _), (16, _), (17, _), (18, _), (19, _), (20, _), (21, _), (22, _), (23, _), (24, _), (25, _), (26, _), (27, _)]) (.cons rfl (.cons rfl (.cons rfl (.cons rfl (.cons rfl (.cons rfl (.cons rfl (.cons rfl (.cons rfl (.cons rfl (.cons rfl (.cons rfl (.cons rfl (.cons rfl (.cons rfl (.cons rfl (.cons rfl (.cons rfl (.cons rfl (.cons rfl (.cons rfl (.nil _)))))))))))))))))))))) ?_
        refine cd_if rfl (fun hc27 => ?_) (fun hc27 => ?_)
        ·
          refine cd_exit ?_
          refine ax_then_exit ?_
          refine ax_block_miss (by decide) ?_
          refine ax_then_exit ?_
          refine ax_then_exit ?_
          refine ax_block_hit ?_
          refine ax_then ?_
          refine At.regs (L' := [(0, _)]) (.cons rfl (.nil _)) ?_
          refine cd_seq ?_
          refine cd_region ?_
          refine st (ev_move rfl) rfl rfl rfl ?_
          refine st_call has81 rfl (fun w1 sw => rbad_any b rv bad w1 (sw.blk_eq (h := 0) rfl)) (mod_blk rfl) rfl rfl (fun _ _ => ?_)
          refine op_nil ?_
          refine ax_then ?_
          refine At.regs (L' := []) (.nil _) ?_
          refine cd_seq ?_
          refine cd_region ?_
          refine st (ev_assign rfl) rfl rfl rfl ?_
          refine op_nil ?_
          refine ax_then ?_
          refine At.regs (L' := [(2, _)]) (.cons rfl (.nil _)) ?_
          refine cd_ret ?_
          refine rt_tmp (.inl rfl) Try.results51 rfl ?_
          first
          | (exact fun w1 sw => ⟨cutAt 1 rv (i + 1) r.length, Rr.nUnd_ok rv hs, by rw [(Rr.nVal_ok hs).1], by rw [(Rr.nVal_ok hs).2.1, Bool.or_false]; exact sw.gives (N := [(0, _)]) (.cons rfl (.nil _))⟩)
          | (have hnone : Rr.numS r = none := by
               rw [← hi.2]
               first
               | (rw [show i = r.length by omega, List.drop_length]; rfl)
               | (rw [hd]; first | exact Rr.numG_brk (by omega) | exact Rr.numG_big (by omega) (by omega))
             exact fun w1 sw => ⟨Ky.nil0, Rr.nUnd_no rv hnone, by rw [(Rr.nVal_no hnone).1], by rw [(Rr.nVal_no hnone).2.1, Bool.or_true]; exact sw.gives (N := [(0, _)]) (.cons rfl (.nil _))⟩)
        ·
          refine cd_skip ?_
          refine ax_then ?_
          refine At.regs (L' := [(0, _), (3, _), (4, _), (5, _), (11, _), (12, _), (13, _), (14, _), (15, _), (16, _), (17, _), (18, _), (19, _), (20, _), (21, _), (22, _), (23, _), (24, _), (25, _), (26, _), (27, _)]) (.cons rfl (.cons rfl (.cons rfl (.cons rfl (.cons rfl (.cons rfl (.cons rfl (.cons rfl (.cons rfl (.cons rfl (.cons rfl (.cons rfl (.cons rfl (.cons rfl (.cons rfl (.cons rfl (.cons rfl (.cons rfl (.cons rfl (.cons rfl (.cons rfl (.nil _)))))))))))))))))))))) ?_
          refine cd_seq ?_
          refine cd_region ?_
          refine st (ev_move rfl) rfl rfl rfl ?_
          have hnb : ¬ (i ≥ 9 ∨ (i > 0 ∧ c = 0)) := by omega
          refine st (ev_move rfl) rfl rfl rfl ?_
          refine st (ev_and rfl rfl) rfl rfl rfl ?_
          refine st (ev_conv Try.underlying5 Try.underlying135 rfl) rfl rfl rfl ?_
          refine st (ev_move rfl) rfl rfl rfl ?_
          refine st (ev_mul64 rfl rfl (by omega) (by omega)) rfl rfl rfl ?_
          refine st (ev_shl rfl rfl (by omega)) rfl rfl rfl ?_
          refine st (ev_or rfl rfl) rfl rfl rfl ?_
          refine at_eq (i := 35) (v' := .int .u64 (Rr.acc u c i)) rfl rfl ?_
          refine st (ev_assign rfl) rfl rfl rfl ?_
          refine op_nil ?_
          refine ax_then ?_
          refine At.regs (L' := [(0, _), (3, _), (4, _), (5, _), (11, _), (12, _), (13, _), (14, _), (15, _), (16, _), (17, _), (18, _), (19, _), (20, _), (21, _), (22, _), (23, _), (24, _), (25, _), (26, _), (27, _), (28, _), (29, _), (30, _), (31, _), (32, _), (33, _), (34, _), (35, _)]) (.cons rfl (.cons rfl (.cons rfl (.cons rfl (.cons rfl (.cons rfl (.cons rfl (.cons rfl (.cons rfl (.cons rfl (.cons rfl (.cons rfl (.cons rfl (.cons rfl (.cons rfl (.cons rfl (.cons rfl (.cons rfl (.cons rfl (.cons rfl (.cons rfl (.cons rfl (.cons rfl (.cons rfl (.cons rfl (.cons rfl (.cons rfl (.cons rfl (.cons rfl (.nil _)))))))))))))))))))))))))))))) ?_
          refine cd_seq ?_
          refine cd_region ?_
          refine st (ev_move rfl) rfl rfl rfl ?_
          refine st (ev_lss rfl rfl) rfl rfl rfl ?_
          refine op_nil ?_
          refine ax_then ?_
          refine At.regs (L' := [(0, _), (3, _), (4, _), (5, _), (11, _), (12, _), (13, _), (14, _), (15, _), (16, _), (17, _), (18, _), (19, _), (20, _), (21, _), (22, _), (23, _), (24, _), (25, _), (26, _), (27, _), (28, _), (29, _), (30, _), (31, _), (32, _), (33, _), (34, _), (35, _), (36, _), (37, _)]) (.cons rfl (.cons rfl (.cons rfl (.cons rfl (.cons rfl (.cons rfl (.cons rfl (.cons rfl (.cons rfl (.cons rfl (.cons rfl (.cons rfl (.cons rfl (.cons rfl (.cons rfl (.cons rfl (.cons rfl (.cons rfl (.cons rfl (.cons rfl (.cons rfl (.cons rfl (.cons rfl (.cons rfl (.cons rfl (.cons rfl (.cons rfl (.cons rfl (.cons rfl (.cons rfl (.cons rfl (.nil _)))))))))))))))))))))))))))))))) ?_
          refine cd_if rfl (fun hc37 => ?_) (fun hc37 => ?_)
          ·
            refine cd_seq ?_
            refine cd_seq ?_
            refine cd_region ?_
            refine st (ev_move rfl) rfl rfl rfl ?_
            refine st (ev_gtr rfl rfl) rfl rfl rfl ?_
            refine op_nil ?_
            refine ax_then ?_
            refine At.regs (L' := [(0, _), (3, _), (4, _), (5, _), (11, _), (12, _), (13, _), (14, _), (15, _), (16, _), (17, _), (18, _), (19, _), (20, _), (21, _), (22, _), (23, _), (24, _), (25, _), (26, _), (27, _), (28, _), (29, _), (30, _), (31, _), (32, _), (33, _), (34, _), (35, _), (36, _), (37, _), (38, _), (39, _)]) (.cons rfl (.cons rfl (.cons rfl (.cons rfl (.cons rfl (.cons rfl (.cons rfl (.cons rfl (.cons rfl (.cons rfl (.cons rfl (.cons rfl (.cons rfl (.cons rfl (.cons rfl (.cons rfl (.cons rfl (.cons rfl (.cons rfl (.cons rfl (.cons rfl (.cons rfl (.cons rfl (.cons rfl (.cons rfl (.cons rfl (.cons rfl (.cons rfl (.cons rfl (.cons rfl (.cons rfl (.cons rfl (.cons rfl (.nil _)))))))))))))))))))))))))))))))))) ?_
            refine cd_if rfl (fun hc39 => ?_) (fun hc39 => ?_)
            ·
              refine cd_exit ?_
              refine ax_then_exit ?_
              refine ax_block_miss (by decide) ?_
              refine ax_then_exit ?_
              refine ax_then_exit ?_
              refine ax_block_hit ?_
              refine ax_then ?_
              refine At.regs (L' := [(0, _)]) (.cons rfl (.nil _)) ?_
              refine cd_seq ?_
              refine cd_region ?_
              refine st (ev_move rfl) rfl rfl rfl ?_
              refine st_call has81 rfl (fun w1 sw => rbad_any b rv bad w1 (sw.blk_eq (h := 0) rfl)) (mod_blk rfl) rfl rfl (fun _ _ => ?_)
              refine op_nil ?_
              refine ax_then ?_
              refine At.regs (L' := []) (.nil _) ?_
              refine cd_seq ?_
              refine cd_region ?_
              refine st (ev_assign rfl) rfl rfl rfl ?_
              refine op_nil ?_
              refine ax_then ?_
              refine At.regs (L' := [(2, _)]) (.cons rfl (.nil _)) ?_
              refine cd_ret ?_
              refine rt_tmp (.inl rfl) Try.results51 rfl ?_
              first
              | (exact fun w1 sw => ⟨cutAt 1 rv (i + 1) r.length, Rr.nUnd_ok rv hs, by rw [(Rr.nVal_ok hs).1], by rw [(Rr.nVal_ok hs).2.1, Bool.or_false]; exact sw.gives (N := [(0, _)]) (.cons rfl (.nil _))⟩)
              | (have hnone : Rr.numS r = none := by
                   rw [← hi.2]
                   first
                   | (rw [show i = r.length by omega, List.drop_length]; rfl)
                   | (rw [hd]; first | exact Rr.numG_brk (by omega) | exact Rr.numG_big (by omega) (by omega))
                 exact fun w1 sw => ⟨Ky.nil0, Rr.nUnd_no rv hnone, by rw [(Rr.nVal_no hnone).1], by rw [(Rr.nVal_no hnone).2.1, Bool.or_true]; exact sw.gives (N := [(0, _)]) (.cons rfl (.nil _))⟩)
            ·
              refine cd_skip ?_
              refine ax_then ?_
              refine At.regs (L' := [(0, _), (3, _), (4, _), (5, _), (11, _), (12, _), (13, _), (14, _), (15, _), (16, _), (17, _), (18, _), (19, _), (20, _), (21, _), (22, _), (23, _), (24, _), (25, _), (26, _), (27, _), (28, _), (29, _), (30, _), (31, _), (32, _), (33, _), (34, _), (35, _), (36, _), (37, _), (38, _), (39, _)]) (.cons rfl (.cons rfl (.cons rfl (.cons rfl (.cons rfl (.cons rfl (.cons rfl (.cons rfl (.cons rfl (.cons rfl (.cons rfl (.cons rfl (.cons rfl (.cons rfl (.cons rfl (.cons rfl (.cons rfl (.cons rfl (.cons rfl (.cons rfl (.cons rfl (.cons rfl (.cons rfl (.cons rfl (.cons rfl (.cons rfl (.cons rfl (.cons rfl (.cons rfl (.cons rfl (.cons rfl (.cons rfl (.cons rfl (.nil _)))))))))))))))))))))))))))))))))) ?_
              refine cd_seq ?_
              refine cd_region ?_
              refine st (ev_move rfl) rfl rfl rfl ?_
              have hs : Rr.numS r = some (Rr.acc u c i, i + 1) := by rw [← hi.2, hd]; exact Rr.numG_ok hnb (by omega) hc39
              have hap := Rr.acc_pos u c i
              have hrng := Rr.numS_spec hs
              refine st (ev_move rfl) rfl rfl rfl ?_
              refine st (ev_nilCheck rfl) rfl rfl rfl ?_
              refine st (ev_fieldAddr (b := _) Try.underlying139 (f := _) rfl ty28 (by decide) rfl) rfl rfl rfl ?_
              refine st (ld_blk1 (h := 0) ty28 rfl rfl rfl rfl) rfl rfl rfl ?_
              refine st (ev_move rfl) rfl rfl rfl ?_
              refine st (ev_add64 rfl rfl (by omega) (by omega)) rfl rfl rfl ?_
              refine st (ev_slicei_lo Try.underlying28 ty5 rfl rfl (fun w1 sw => sw.sl_rd (h := 1) rfl) (by omega) (by first | omega | (simp only [List.length_append, List.length_cons, List.length_nil, List.length_set, List.length_replicate, List.length_take, List.length_drop, ints_length, wr_length, sha_len, node_len, recov_len, Ky.named_len, Ky.keyPub_len, Ky.hashOf_len] <;> omega))) rfl rfl rfl ?_
              refine at_eq (i := 47) (v' := cutAt 1 rv (i + 1) r.length) rfl rfl ?_
              refine st (ev_nilCheck rfl) rfl rfl rfl ?_
              refine st (ev_fieldAddr (b := _) Try.underlying139 (f := _) rfl ty28 (by decide) rfl) rfl rfl rfl ?_
              refine st_store1 0 ty28 rfl rfl rfl (rd_shape (h.cuti (lo := i + 1) (hi := r.length) (by omega) (Nat.le_refl _))).2 (show 0 < 2 from by decide) rfl ?_
              refine at_heq (i := 0) (v' := .blk (b) (.cells ([cutAt 1 rv (i + 1) r.length, .bool (bad)]).toArray 139)) rfl rfl ?_
              refine op_nil ?_
              refine ax_then ?_
              refine At.regs (L' := [(0, _), (3, _), (4, _), (5, _), (11, _), (12, _), (13, _), (14, _), (15, _), (16, _), (17, _), (18, _), (19, _), (20, _), (21, _), (22, _), (23, _), (24, _), (25, _), (26, _), (27, _), (28, _), (29, _), (30, _), (31, _), (32, _), (33, _), (34, _), (35, _), (36, _), (37, _), (38, _), (39, _), (40, _), (41, _), (42, _), (43, _), (44, _), (45, _), (46, _), (47, _), (48, _), (49, _)]) (.cons rfl (.cons rfl (.cons rfl (.cons rfl (.cons rfl (.cons rfl (.cons rfl (.cons rfl (.cons rfl (.cons rfl (.cons rfl (.cons rfl (.cons rfl (.cons rfl (.cons rfl (.cons rfl (.cons rfl (.cons rfl (.cons rfl (.cons rfl (.cons rfl (.cons rfl (.cons rfl (.cons rfl (.cons rfl (.cons rfl (.cons rfl (.cons rfl (.cons rfl (.cons rfl (.cons rfl (.cons rfl (.cons rfl (.cons rfl (.cons rfl (.cons rfl (.cons rfl (.cons rfl (.cons rfl (.cons rfl (.cons rfl (.cons rfl (.cons rfl (.nil _)))))))))))))))))))))))))))))))))))))))))))) ?_
              refine cd_seq ?_
              refine cd_region ?_
              refine st (ev_move rfl) rfl rfl rfl ?_
              refine st (ev_conv64 Try.underlying135 Try.underlying3 rfl (by omega) (by omega)) rfl rfl rfl ?_
              refine st (ev_assign rfl) rfl rfl rfl ?_
              refine op_nil ?_
              refine ax_then ?_
              refine At.regs (L' := [(0, _), (2, _), (3, _), (4, _), (5, _), (11, _), (12, _), (13, _), (14, _), (15, _), (16, _), (17, _), (18, _), (19, _), (20, _), (21, _), (22, _), (23, _), (24, _), (25, _), (26, _), (27, _), (28, _), (29, _), (30, _), (31, _), (32, _), (33, _), (34, _), (35, _), (36, _), (37, _), (38, _), (39, _), (40, _), (41, _), (42, _), (43, _), (44, _), (45, _), (46, _), (47, _), (48, _), (49, _), (50, _), (51, _)]) (.cons rfl (.cons rfl (.cons rfl (.cons rfl (.cons rfl (.cons rfl (.cons rfl (.cons rfl (.cons rfl (.cons rfl (.cons rfl (.cons rfl (.cons rfl (.cons rfl (.cons rfl (.cons rfl (.cons rfl (.cons rfl (.cons rfl (.cons rfl (.cons rfl (.cons rfl (.cons rfl (.cons rfl (.cons rfl (.cons rfl (.cons rfl (.cons rfl (.cons rfl (.cons rfl (.cons rfl (.cons rfl (.cons rfl (.cons rfl (.cons rfl (.cons rfl (.cons rfl (.cons rfl (.cons rfl (.cons rfl (.cons rfl (.cons rfl (.cons rfl (.cons rfl (.cons rfl (.cons rfl (.nil _))))))))))))))))))))))))))))))))))))))))))))))) ?_
              refine cd_ret ?_
              refine ax_block_ret ?_
              refine ax_then_ret ?_
              refine ax_then_ret ?_
              refine ax_block_ret ?_
              refine ax_then_ret ?_
              refine rt_tmp (.inl rfl) Try.results51 rfl ?_
              first
              | (exact fun w1 sw => ⟨cutAt 1 rv (i + 1) r.length, Rr.nUnd_ok rv hs, by rw [(Rr.nVal_ok hs).1], by rw [(Rr.nVal_ok hs).2.1, Bool.or_false]; exact sw.gives (N := [(0, _)]) (.cons rfl (.nil _))⟩)
              | (have hnone : Rr.numS r = none := by
                   rw [← hi.2]
                   first
                   | (rw [show i = r.length by omega, List.drop_length]; rfl)
                   | (rw [hd]; first | exact Rr.numG_brk (by omega) | exact Rr.numG_big (by omega) (by omega))
                 exact fun w1 sw => ⟨Ky.nil0, Rr.nUnd_no rv hnone, by rw [(Rr.nVal_no hnone).1], by rw [(Rr.nVal_no hnone).2.1, Bool.or_true]; exact sw.gives (N := [(0, _)]) (.cons rfl (.nil _))⟩)
          ·
            refine cd_skip ?_
            refine ax_block ?_
            refine ax_then ?_
            refine At.regs (L' := [(0, _), (3, _), (4, _), (5, _), (11, _), (12, _), (13, _), (14, _), (15, _), (16, _), (17, _), (18, _), (19, _), (20, _), (21, _), (22, _), (23, _), (24, _), (25, _), (26, _), (27, _), (28, _), (29, _), (30, _), (31, _), (32, _), (33, _), (34, _), (35, _), (36, _), (37, _)]) (.cons rfl (.cons rfl (.cons rfl (.cons rfl (.cons rfl (.cons rfl (.cons rfl (.cons rfl (.cons rfl (.cons rfl (.cons rfl (.cons rfl (.cons rfl (.cons rfl (.cons rfl (.cons rfl (.cons rfl (.cons rfl (.cons rfl (.cons rfl (.cons rfl (.cons rfl (.cons rfl (.cons rfl (.cons rfl (.cons rfl (.cons rfl (.cons rfl (.cons rfl (.cons rfl (.cons rfl (.nil _)))))))))))))))))))))))))))))))) ?_
            refine cd_region ?_
            refine st (ev_add64 rfl rfl (by omega) (by omega)) rfl rfl rfl ?_
            refine st (ev_move rfl) rfl rfl rfl ?_
            refine op_nil ?_
            exact at_again ((i + 1, Rr.acc u c i)) (⟨by show i + 1 ≤ r.length; omega, by show Rr.numG (i + 1) (Rr.acc u c i) (r.drop (i + 1)) = Rr.numS r; rw [← Rr.numG_go hnb (by omega), ← hd]; exact hi.2⟩) (by omega) (.cons rfl (.cons rfl (.cons rfl (.cons rfl (.cons rfl (.nil _)))))) (.cons rfl (.nil _)) (.cons rfl (.nil _))
      ·
        refine st_skip rfl rfl rfl ?_
        refine st_skip rfl rfl rfl ?_
        refine st (ev_pick_f rfl rfl) rfl rfl rfl ?_
        refine st (ev_pick_f rfl rfl) rfl rfl rfl ?_
        refine op_nil ?_
        refine ax_then ?_
        refine At.regs (L' := [(0, _), (3, _), (4, _), (5, _), (11, _), (12, _), (13, _), (14, _), (15, _), (16, _), (17, _), (18, _), (19, _), (20, _), (21, _), (22, _), (23, _), (24, _), (25, _), (26, _), (27, _)]) (.cons rfl (.cons rfl (.cons rfl (.cons rfl (.cons rfl (.cons rfl (.cons rfl (.cons rfl (.cons rfl (.cons rfl (.cons rfl (.cons rfl (.cons rfl (.cons rfl (.cons rfl (.cons rfl (.cons rfl (.cons rfl (.cons rfl (.cons rfl (.cons rfl (.nil _)))))))))))))))))))))) ?_
        refine cd_false rfl ?_
        refine cd_skip ?_
        refine ax_then ?_
        refine At.regs (L' := [(0, _), (3, _), (4, _), (5, _), (11, _), (12, _), (13, _), (14, _), (15, _), (16, _), (17, _), (18, _), (19, _), (20, _), (21, _), (22, _), (23, _), (24, _), (25, _), (26, _), (27, _)]) (.cons rfl (.cons rfl (.cons rfl (.cons rfl (.cons rfl (.cons rfl (.cons rfl (.cons rfl (.cons rfl (.cons rfl (.cons rfl (.cons rfl (.cons rfl (.cons rfl (.cons rfl (.cons rfl (.cons rfl (.cons rfl (.cons rfl (.cons rfl (.cons rfl (.nil _)))))))))))))))))))))) ?_
        refine cd_seq ?_
        refine cd_region ?_
        refine st (ev_move rfl) rfl rfl rfl ?_
        have hnb : ¬ (i ≥ 9 ∨ (i > 0 ∧ c = 0)) := by omega
        refine st (ev_move rfl) rfl rfl rfl ?_
        refine st (ev_and rfl rfl) rfl rfl rfl ?_
        refine st (ev_conv Try.underlying5 Try.underlying135 rfl) rfl rfl rfl ?_
        refine st (ev_move rfl) rfl rfl rfl ?_
        refine st (ev_mul64 rfl rfl (by omega) (by omega)) rfl rfl rfl ?_
        refine st (ev_shl rfl rfl (by omega)) rfl rfl rfl ?_
        refine st (ev_or rfl rfl) rfl rfl rfl ?_
        refine at_eq (i := 35) (v' := .int .u64 (Rr.acc u c i)) rfl rfl ?_
        refine st (ev_assign rfl) rfl rfl rfl ?_
        refine op_nil ?_
        refine ax_then ?_
        refine At.regs (L' := [(0, _), (3, _), (4, _), (5, _), (11, _), (12, _), (13, _), (14, _), (15, _), (16, _), (17, _), (18, _), (19, _), (20, _), (21, _), (22, _), (23, _), (24, _), (25, _), (26, _), (27, _), (28, _), (29, _), (30, _), (31, _), (32, _), (33, _), (34, _), (35, _)]) (.cons rfl (.cons rfl (.cons rfl (.cons rfl (.cons rfl (.cons rfl (.cons rfl (.cons rfl (.cons rfl (.cons rfl (.cons rfl (.cons rfl (.cons rfl (.cons rfl (.cons rfl (.cons rfl (.cons rfl (.cons rfl (.cons rfl (.cons rfl (.cons rfl (.cons rfl (.cons rfl (.cons rfl (.cons rfl (.cons rfl (.cons rfl (.cons rfl (.cons rfl (.nil _)))))))))))))))))))))))))))))) ?_
        refine cd_seq ?_
        refine cd_region ?_
        refine st (ev_move rfl) rfl rfl rfl ?_
        refine st (ev_lss rfl rfl) rfl rfl rfl ?_
        refine op_nil ?_
        refine ax_then ?_
        refine At.regs (L' := [(0, _), (3, _), (4, _), (5, _), (11, _), (12, _), (13, _), (14, _), (15, _), (16, _), (17, _), (18, _), (19, _), (20, _), (21, _), (22, _), (23, _), (24, _), (25, _), (26, _), (27, _), (28, _), (29, _), (30, _), (31, _), (32, _), (33, _), (34, _), (35, _), (36, _), (37, _)]) (.cons rfl (.cons rfl (.cons rfl (.cons rfl (.cons rfl (.cons rfl (.cons rfl (.cons rfl (.cons rfl (.cons rfl (.cons rfl (.cons rfl (.cons rfl (.cons rfl (.cons rfl (.cons rfl (.cons rfl (.cons rfl (.cons rfl (.cons rfl (.cons rfl (.cons rfl (.cons rfl (.cons rfl (.cons rfl (.cons rfl (.cons rfl (.cons rfl (.cons rfl (.cons rfl (.cons rfl (.nil _)))))))))))))))))))))))))))))))) ?_
        refine cd_if rfl (fun hc37 => ?_) (fun hc37 => ?_)
        ·
          refine cd_seq ?_
          refine cd_seq ?_
          refine cd_region ?_
          refine st (ev_move rfl) rfl rfl rfl ?_
          refine st (ev_gtr rfl rfl) rfl rfl rfl ?_
          refine op_nil ?_
          refine ax_then ?_
          refine At.regs (L' := [(0, _), (3, _), (4, _), (5, _), (11, _), (12, _), (13, _), (14, _), (15, _), (16, _), (17, _), (18, _), (19, _), (20, _), (21, _), (22, _), (23, _), (24, _), (25, _), (26, _), (27, _), (28, _), (29, _), (30, _), (31, _), (32, _), (33, _), (34, _), (35, _), (36, _), (37, _), (38, _), (39, _)]) (.cons rfl (.cons rfl (.cons rfl (.cons rfl (.cons rfl (.cons rfl (.cons rfl (.cons rfl (.cons rfl (.cons rfl (.cons rfl (.cons rfl (.cons rfl (.cons rfl (.cons rfl (.cons rfl (.cons rfl (.cons rfl (.cons rfl (.cons rfl (.cons rfl (.cons rfl (.cons rfl (.cons rfl (.cons rfl (.cons rfl (.cons rfl (.cons rfl (.cons rfl (.cons rfl (.cons rfl (.cons rfl (.cons rfl (.nil _)))))))))))))))))))))))))))))))))) ?_
          refine cd_if rfl (fun hc39 => ?_) (fun hc39 => ?_)
          ·
            refine cd_exit ?_
            refine ax_then_exit ?_
            refine ax_block_miss (by decide) ?_
            refine ax_then_exit ?_
            refine ax_then_exit ?_
            refine ax_block_hit ?_
            refine ax_then ?_
            refine At.regs (L' := [(0, _)]) (.cons rfl (.nil _)) ?_
            refine cd_seq ?_
            refine cd_region ?_
            refine st (ev_move rfl) rfl rfl rfl ?_
            refine st_call has81 rfl (fun w1 sw => rbad_any b rv bad w1 (sw.blk_eq (h := 0) rfl)) (mod_blk rfl) rfl rfl (fun _ _ => ?_)
            refine op_nil ?_
            refine ax_then ?_
            refine At.regs (L' := []) (.nil _) ?_
            refine cd_seq ?_
            refine cd_region ?_
            refine st (ev_assign rfl) rfl rfl rfl ?_
            refine op_nil ?_
            refine ax_then ?_
            refine At.regs (L' := [(2, _)]) (.cons rfl (.nil _)) ?_
            refine cd_ret ?_
            refine rt_tmp (.inl rfl) Try.results51 rfl ?_
            first
            | (exact fun w1 sw => ⟨cutAt 1 rv (i + 1) r.length, Rr.nUnd_ok rv hs, by rw [(Rr.nVal_ok hs).1], by rw [(Rr.nVal_ok hs).2.1, Bool.or_false]; exact sw.gives (N := [(0, _)]) (.cons rfl (.nil _))⟩)
            | (have hnone : Rr.numS r = none := by
                 rw [← hi.2]
                 first
                 | (rw [show i = r.length by omega, List.drop_length]; rfl)
                 | (rw [hd]; first | exact Rr.numG_brk (by omega) | exact Rr.numG_big (by omega) (by omega))
               exact fun w1 sw => ⟨Ky.nil0, Rr.nUnd_no rv hnone, by rw [(Rr.nVal_no hnone).1], by rw [(Rr.nVal_no hnone).2.1, Bool.or_true]; exact sw.gives (N := [(0, _)]) (.cons rfl (.nil _))⟩)
          ·
            refine cd_skip ?_
            refine ax_then ?_
            refine At.regs (L' := [(0, _), (3, _), (4, _), (5, _), (11, _), (12, _), (13, _), (14, _), (15, _), (16, _), (17, _), (18, _), (19, _), (20, _), (21, _), (22, _), (23, _), (24, _), (25, _), (26, _), (27, _), (28, _), (29, _), (30, _), (31, _), (32, _), (33, _), (34, _), (35, _), (36, _), (37, _), (38, _), (39, _)]) (.cons rfl (.cons rfl (.cons rfl (.cons rfl (.cons rfl (.cons rfl (.cons rfl (.cons rfl (.cons rfl (.cons rfl (.cons rfl (.cons rfl (.cons rfl (.cons rfl (.cons rfl (.cons rfl (.cons rfl (.cons rfl (.cons rfl (.cons rfl (.cons rfl (.cons rfl (.cons rfl (.cons rfl (.cons rfl (.cons rfl (.cons rfl (.cons rfl (.cons rfl (.cons rfl (.cons rfl (.cons rfl (.cons rfl (.nil _)))))))))))))))))))))))))))))))))) ?_
            refine cd_seq ?_
            refine cd_region ?_
            refine st (ev_move rfl) rfl rfl rfl ?_
            have hs : Rr.numS r = some (Rr.acc u c i, i + 1) := by rw [← hi.2, hd]; exact Rr.numG_ok hnb (by omega) hc39
            have hap := Rr.acc_pos u c i
            have hrng := Rr.numS_spec hs
            refine st (ev_move rfl) rfl rfl rfl ?_
            refine st (ev_nilCheck rfl) rfl rfl rfl ?_
            refine st (ev_fieldAddr (b := _) Try.underlying139 (f := _) rfl ty28 (by decide) rfl) rfl rfl rfl ?_
            refine st (ld_blk1 (h := 0) ty28 rfl rfl rfl rfl) rfl rfl rfl ?_
            refine st (ev_move rfl) rfl rfl rfl ?_
            refine st (ev_add64 rfl rfl (by omega) (by omega)) rfl rfl rfl ?_
            refine st (ev_slicei_lo Try.underlying28 ty5 rfl rfl (fun w1 sw => sw.sl_rd (h := 1) rfl) (by omega) (by first | omega | (simp only [List.length_append, List.length_cons, List.length_nil, List.length_set, List.length_replicate, List.length_take, List.length_drop, ints_length, wr_length, sha_len, node_len, recov_len, Ky.named_len, Ky.keyPub_len, Ky.hashOf_len] <;> omega))) rfl rfl rfl ?_
            refine at_eq (i := 47) (v' := cutAt 1 rv (i + 1) r.length) rfl rfl ?_
            refine st (ev_nilCheck rfl) rfl rfl rfl ?_
            refine st (ev_fieldAddr (b := _) Try.underlying139 (f := _) rfl ty28 (by decide) rfl) rfl rfl rfl ?_
            refine st_store1 0 ty28 rfl rfl rfl (rd_shape (h.cuti (lo := i + 1) (hi := r.length) (by omega) (Nat.le_refl _))).2 (show 0 < 2 from by decide) rfl ?_
            refine at_heq (i := 0) (v' := .blk (b) (.cells ([cutAt 1 rv (i + 1) r.length, .bool (bad)]).toArray 139)) rfl rfl ?_
            refine op_nil ?_
            refine ax_then ?_
            refine At.regs (L' := [(0, _), (3, _), (4, _), (5, _), (11, _), (12, _), (13, _), (14, _), (15, _), (16, _), (17, _), (18, _), (19, _), (20, _), (21, _), (22, _), (23, _), (24, _), (25, _), (26, _), (27, _), (28, _), (29, _), (30, _), (31, _), (32, _), (33, _), (34, _), (35, _), (36, _), (37, _), (38, _), (39, _), (40, _), (41, _), (42, _), (43, _), (44, _), (45, _), (46, _), (47, _), (48, _), (49, _)]) (.cons rfl (.cons rfl (.cons rfl (.cons rfl (.cons rfl (.cons rfl (.cons rfl (.cons rfl (.cons rfl (.cons rfl (.cons rfl (.cons rfl (.cons rfl (.cons rfl (.cons rfl (.cons rfl (.cons rfl (.cons rfl (.cons rfl (.cons rfl (.cons rfl (.cons rfl (.cons rfl (.cons rfl (.cons rfl (.cons rfl (.cons rfl (.cons rfl (.cons rfl (.cons rfl (.cons rfl (.cons rfl (.cons rfl (.cons rfl (.cons rfl (.cons rfl (.cons rfl (.cons rfl (.cons rfl (.cons rfl (.cons rfl (.cons rfl (.cons rfl (.nil _)))))))))))))))))))))))))))))))))))))))))))) ?_
            refine cd_seq ?_
            refine cd_region ?_
            refine st (ev_move rfl) rfl rfl rfl ?_
            refine st (ev_conv64 Try.underlying135 Try.underlying3 rfl (by omega) (by omega)) rfl rfl rfl ?_
            refine st (ev_assign rfl) rfl rfl rfl ?_
            refine op_nil ?_
            refine ax_then ?_
            refine At.regs (L' := [(0, _), (2, _), (3, _), (4, _), (5, _), (11, _), (12, _), (13, _), (14, _), (15, _), (16, _), (17, _), (18, _), (19, _), (20, _), (21, _), (22, _), (23, _), (24, _), (25, _), (26, _), (27, _), (28, _), (29, _), (30, _), (31, _), (32, _), (33, _), (34, _), (35, _), (36, _), (37, _), (38, _), (39, _), (40, _), (41, _), (42, _), (43, _), (44, _), (45, _), (46, _), (47, _), (48, _), (49, _), (50, _), (51, _)]) (.cons rfl (.cons rfl (.cons rfl (.cons rfl (.cons rfl (.cons rfl (.cons rfl (.cons rfl (.cons rfl (.cons rfl (.cons rfl (.cons rfl (.cons rfl (.cons rfl (.cons rfl (.cons rfl (.cons rfl (.cons rfl (.cons rfl (.cons rfl (.cons rfl (.cons rfl (.cons rfl (.cons rfl (.cons rfl (.cons rfl (.cons rfl (.cons rfl (.cons rfl (.cons rfl (.cons rfl (.cons rfl (.cons rfl (.cons rfl (.cons rfl (.cons rfl (.cons rfl (.cons rfl (.cons rfl (.cons rfl (.cons rfl (.cons rfl (.cons rfl (.cons rfl (.cons rfl (.cons rfl (.nil _))))))))))))))))))))))))))))))))))))))))))))))) ?_
            refine cd_ret ?_
            refine ax_block_ret ?_
            refine ax_then_ret ?_
            refine ax_then_ret ?_
            refine ax_block_ret ?_
            refine ax_then_ret ?_
            refine rt_tmp (.inl rfl) Try.results51 rfl ?_
            first
            | (exact fun w1 sw => ⟨cutAt 1 rv (i + 1) r.length, Rr.nUnd_ok rv hs, by rw [(Rr.nVal_ok hs).1], by rw [(Rr.nVal_ok hs).2.1, Bool.or_false]; exact sw.gives (N := [(0, _)]) (.cons rfl (.nil _))⟩)
            | (have hnone : Rr.numS r = none := by
                 rw [← hi.2]
                 first
                 | (rw [show i = r.length by omega, List.drop_length]; rfl)
                 | (rw [hd]; first | exact Rr.numG_brk (by omega) | exact Rr.numG_big (by omega) (by omega))
               exact fun w1 sw => ⟨Ky.nil0, Rr.nUnd_no rv hnone, by rw [(Rr.nVal_no hnone).1], by rw [(Rr.nVal_no hnone).2.1, Bool.or_true]; exact sw.gives (N := [(0, _)]) (.cons rfl (.nil _))⟩)
        ·
          refine cd_skip ?_
          refine ax_block ?_
          refine ax_then ?_
          refine At.regs (L' := [(0, _), (3, _), (4, _), (5, _), (11, _), (12, _), (13, _), (14, _), (15, _), (16, _), (17, _), (18, _), (19, _), (20, _), (21, _), (22, _), (23, _), (24, _), (25, _), (26, _), (27, _), (28, _), (29, _), (30, _), (31, _), (32, _), (33, _), (34, _), (35, _), (36, _), (37, _)]) (.cons rfl (.cons rfl (.cons rfl (.cons rfl (.cons rfl (.cons rfl (.cons rfl (.cons rfl (.cons rfl (.cons rfl (.cons rfl (.cons rfl (.cons rfl (.cons rfl (.cons rfl (.cons rfl (.cons rfl (.cons rfl (.cons rfl (.cons rfl (.cons rfl (.cons rfl (.cons rfl (.cons rfl (.cons rfl (.cons rfl (.cons rfl (.cons rfl (.cons rfl (.cons rfl (.cons rfl (.nil _)))))))))))))))))))))))))))))))) ?_
          refine cd_region ?_
          refine st (ev_add64 rfl rfl (by omega) (by omega)) rfl rfl rfl ?_
          refine st (ev_move rfl) rfl rfl rfl ?_
          refine op_nil ?_
          exact at_again ((i + 1, Rr.acc u c i)) (⟨by show i + 1 ≤ r.length; omega, by show Rr.numG (i + 1) (Rr.acc u c i) (r.drop (i + 1)) = Rr.numS r; rw [← Rr.numG_go hnb (by omega), ← hd]; exact hi.2⟩) (by omega) (.cons rfl (.cons rfl (.cons rfl (.cons rfl (.cons rfl (.nil _)))))) (.cons rfl (.nil _)) (.cons rfl (.nil _))
  ·
    have hlt : ¬ i < r.length := by omega
    have hd : True := trivial
    refine cd_exit ?_
    refine ax_then_exit ?_
    refine ax_then_exit ?_
    refine ax_block_hit ?_
    refine ax_then ?_
    refine At.regs (L' := [(0, _)]) (.cons rfl (.nil _)) ?_
    refine cd_seq ?_
    refine cd_region ?_
    refine st (ev_move rfl) rfl rfl rfl ?_
    refine st_call has81 rfl (fun w1 sw => rbad_any b rv bad w1 (sw.blk_eq (h := 0) rfl)) (mod_blk rfl) rfl rfl (fun _ _ => ?_)
    refine op_nil ?_
    refine ax_then ?_
    refine At.regs (L' := []) (.nil _) ?_
    refine cd_seq ?_
    refine cd_region ?_
    refine st (ev_assign rfl) rfl rfl rfl ?_
    refine op_nil ?_
    refine ax_then ?_
    refine At.regs (L' := [(2, _)]) (.cons rfl (.nil _)) ?_
    refine cd_ret ?_
    refine rt_tmp (.inl rfl) Try.results51 rfl ?_
    first
    | (exact fun w1 sw => ⟨cutAt 1 rv (i + 1) r.length, Rr.nUnd_ok rv hs, by rw [(Rr.nVal_ok hs).1], by rw [(Rr.nVal_ok hs).2.1, Bool.or_false]; exact sw.gives (N := [(0, _)]) (.cons rfl (.nil _))⟩)
    | (have hnone : Rr.numS r = none := by
         rw [← hi.2]
         first
         | (rw [show i = r.length by omega, List.drop_length]; rfl)
         | (rw [hd]; first | exact Rr.numG_brk (by omega) | exact Rr.numG_big (by omega) (by omega))
       exact fun w1 sw => ⟨Ky.nil0, Rr.nUnd_no rv hnone, by rw [(Rr.nVal_no hnone).1], by rw [(Rr.nVal_no hnone).2.1, Bool.or_true]; exact sw.gives (N := [(0, _)]) (.cons rfl (.nil _))⟩)
set_option maxRecDepth 20000 in
set_option maxHeartbeats 2000000 in
theorem rrawg_ok (b : Nat) (rv : Value) (bad : Bool) (r : List Int) (w : World) (hb : w.heap[b]? = some (.cells (List.toArray [rv, .bool bad]) 139)) (h : Rd w rv 1 (ints .u8 r)) (ho : FE.off b (.sl rv 1 (ints .u8 r))) (hr : r.length ≤ 140737488352000) (n : Int) (hf : Rr.fitsR r n) : Calls Try.prog 128 #[.pointer (some ⟨b, 0, none⟩), .int .i64 n] w (Post (ι := Value × Value) w [b] (fun x => Rr.Und rv r x.1 (Rr.rRest r n)) (fun x => x.2) (fun x => [(0, .blk (b) (.cells ([x.1, .bool (bad || Rr.rBad r n)]).toArray 139)), (1, .own (x.2) 5 1 (ints .u8 (Rr.rOut r n)))])) := by
  have hf0 := hf.1
  have hf1 := hf.2
  refine calls_at (vs := [.pointer (some ⟨b, 0, none⟩), .int .i64 n]) (X := [b]) (H := [(0, .blk (b) (.cells ([rv, .bool (bad)]).toArray 139))]) (F := [(1, .sl rv 1 (ints .u8 r))]) 40 Try.func128 rfl rfl rfl ((Sat.blkX 0 hb).readb (f := .sl rv 1 (ints .u8 r)) 1 h ho) ?_
  refine cd_seq ?_
  refine cd_region ?_
  refine st (ev_assign rfl) rfl rfl rfl ?_
  refine at_own_nil 4 5 1 ?_
  refine at_heq (i := 4) (v' := .own (.slice none 0 0) 5 1 (ints .u8 [])) rfl rfl ?_
  refine op_nil ?_
  refine ax_then ?_
  refine At.regs (L' := [(0, _), (1, _), (4, _)]) (.cons rfl (.cons rfl (.cons rfl (.nil _)))) ?_
  refine cd_seq ?_
  refine cd_seq ?_
  refine cd_region ?_
  refine st (ev_move rfl) rfl rfl rfl ?_
  refine st (ev_eql_ptr_nil Try.underlying107 rfl rfl) rfl rfl rfl ?_
  refine st (ev_move rfl) rfl rfl rfl ?_
  refine st (ev_move rfl) rfl rfl rfl ?_
  refine st (ev_lss rfl rfl) rfl rfl rfl ?_
  refine st (ev_pick_f rfl rfl) rfl rfl rfl ?_
  refine st (ev_move rfl) rfl rfl rfl ?_
  refine at_eq (i := 12) (v' := .bool false) rfl (by simp only [Value.bool.injEq, decide_eq_true_eq, decide_eq_false_iff_not]; omega) ?_
  refine st (ev_move rfl) rfl rfl rfl ?_
  refine st (ev_move rfl) rfl rfl rfl ?_
  refine st (ev_nilCheck rfl) rfl rfl rfl ?_
  refine st (ev_fieldAddr (b := _) Try.underlying139 (f := _) rfl ty28 (by decide) rfl) rfl rfl rfl ?_
  refine st (ld_blk1 (h := 0) ty28 rfl rfl rfl rfl) rfl rfl rfl ?_
  refine st (ev_len_rdi (h := 1) Try.underlying28 rfl rfl) rfl rfl rfl ?_
  refine st (ev_gtr rfl rfl) rfl rfl rfl ?_
  refine st (ev_pick_f rfl rfl) rfl rfl rfl ?_
  refine op_nil ?_
  refine ax_then ?_
  refine At.regs (L' := [(0, _), (1, _), (4, _), (20, _)]) (.cons rfl (.cons rfl (.cons rfl (.cons rfl (.nil _))))) ?_
  refine cd_if_f rfl (by omega) ?_
  refine cd_skip ?_
  refine ax_then ?_
  refine At.regs (L' := [(0, _), (1, _), (4, _)]) (.cons rfl (.cons rfl (.cons rfl (.nil _)))) ?_
  refine cd_seq ?_
  refine cd_region ?_
  refine st (ev_move rfl) rfl rfl rfl ?_
  refine st (ev_nilCheck rfl) rfl rfl rfl ?_
  refine st (ev_fieldAddr (b := _) Try.underlying139 (f := _) rfl ty28 (by decide) rfl) rfl rfl rfl ?_
  refine st (ld_blk1 (h := 0) ty28 rfl rfl rfl rfl) rfl rfl rfl ?_
  refine st (ev_move rfl) rfl rfl rfl ?_
  refine st (ev_slicei_hi Try.underlying28 ty5 rfl rfl (fun w1 sw => sw.sl_rd (h := 1) rfl) (by omega) (by first | omega | (simp only [List.length_append, List.length_cons, List.length_nil, List.length_set, List.length_replicate, List.length_take, List.length_drop, ints_length, wr_length, sha_len, node_len, recov_len, Ky.named_len, Ky.keyPub_len, Ky.hashOf_len] <;> omega))) rfl rfl rfl ?_
  refine at_eq (i := 28) (v' := cutAt 1 rv 0 n.toNat) rfl rfl ?_
  refine st_call has80 rfl (fun w1 sw => rn 29 (clone_any (cutAt 1 rv 0 n.toNat) (r.take n.toNat) w1 (by rw [List.length_take]; omega) (by have := (sw.sl_rd (h := 1) rfl).cuti (lo := 0) (hi := n.toNat) (by omega) (by omega); simpa using this))) nil_all rfl rfl (fun v29 _ => ?_)
  refine at_heq (i := 29) (v' := .own (v29) 5 1 (ints .u8 (Rr.rOut r n))) rfl (by rw [show Rr.rOut r n = r.take n.toNat from if_pos hf]) ?_
  refine st (ev_assign rfl) rfl rfl rfl ?_
  refine op_nil ?_
  refine ax_then ?_
  refine At.regs (L' := [(0, _), (1, _), (4, _), (5, _)]) (.cons rfl (.cons rfl (.cons rfl (.cons rfl (.nil _))))) ?_
  refine cd_seq ?_
  refine cd_region ?_
  refine st (ev_move rfl) rfl rfl rfl ?_
  refine st (ev_move rfl) rfl rfl rfl ?_
  refine st (ev_nilCheck rfl) rfl rfl rfl ?_
  refine st (ev_fieldAddr (b := _) Try.underlying139 (f := _) rfl ty28 (by decide) rfl) rfl rfl rfl ?_
  refine st (ld_blk1 (h := 0) ty28 rfl rfl rfl rfl) rfl rfl rfl ?_
  refine st (ev_move rfl) rfl rfl rfl ?_
  refine st (ev_slicei_lo Try.underlying28 ty5 rfl rfl (fun w1 sw => sw.sl_rd (h := 1) rfl) (by omega) (by first | omega | (simp only [List.length_append, List.length_cons, List.length_nil, List.length_set, List.length_replicate, List.length_take, List.length_drop, ints_length, wr_length, sha_len, node_len, recov_len, Ky.named_len, Ky.keyPub_len, Ky.hashOf_len] <;> omega))) rfl rfl rfl ?_
  refine st (ev_nilCheck rfl) rfl rfl rfl ?_
  refine st (ev_fieldAddr (b := _) Try.underlying139 (f := _) rfl ty28 (by decide) rfl) rfl rfl rfl ?_
  refine st_store1 0 ty28 rfl rfl rfl (rd_shape (h.cuti (lo := n.toNat) (hi := r.length) (by omega) (Nat.le_refl _))).2 (show 0 < 2 from by decide) rfl ?_
  refine at_heq (i := 0) (v' := .blk (b) (.cells ([cutAt 1 rv n.toNat r.length, .bool (bad)]).toArray 139)) rfl rfl ?_
  refine op_nil ?_
  refine ax_then ?_
  refine At.regs (L' := [(4, _), (5, _)]) (.cons rfl (.cons rfl (.nil _))) ?_
  refine cd_seq ?_
  refine cd_region ?_
  refine st (ev_move rfl) rfl rfl rfl ?_
  refine st (ev_assign rfl) rfl rfl rfl ?_
  refine op_nil ?_
  refine ax_then ?_
  refine At.regs (L' := [(4, _)]) (.cons rfl (.nil _)) ?_
  refine cd_ret ?_
  refine rt_tmp (.inl rfl) Try.results128 rfl ?_
  exact fun w1 sw => ⟨(cutAt 1 rv n.toNat r.length, v29), Rr.rUnd_ok rv hf, rfl, by rw [show Rr.rBad r n = false from by rw [Rr.rBad, decide_eq_true hf]; rfl, Bool.or_false]; exact (sw.gives (N := [(0, _), (29, _)]) (.cons rfl (.cons rfl (.nil _)))).rn2 (by decide) 0 1⟩
set_option maxRecDepth 20000 in
set_option maxHeartbeats 2000000 in
theorem rrawg_neg (b : Nat) (rv : Value) (bad : Bool) (r : List Int) (w : World) (hb : w.heap[b]? = some (.cells (List.toArray [rv, .bool bad]) 139)) (h : Rd w rv 1 (ints .u8 r)) (ho : FE.off b (.sl rv 1 (ints .u8 r))) (hr : r.length ≤ 140737488352000) (n : Int) (hn : n < 0) : Calls Try.prog 128 #[.pointer (some ⟨b, 0, none⟩), .int .i64 n] w (Post (ι := Value × Value) w [b] (fun x => Rr.Und rv r x.1 (Rr.rRest r n)) (fun x => x.2) (fun x => [(0, .blk (b) (.cells ([x.1, .bool (bad || Rr.rBad r n)]).toArray 139)), (1, .own (x.2) 5 1 (ints .u8 (Rr.rOut r n)))])) := by
  have hf : ¬ Rr.fitsR r n := fun hh => by have := hh.1; have := hh.2; omega
  refine calls_at (vs := [.pointer (some ⟨b, 0, none⟩), .int .i64 n]) (X := [b]) (H := [(0, .blk (b) (.cells ([rv, .bool (bad)]).toArray 139))]) (F := [(1, .sl rv 1 (ints .u8 r))]) 40 Try.func128 rfl rfl rfl ((Sat.blkX 0 hb).readb (f := .sl rv 1 (ints .u8 r)) 1 h ho) ?_
  refine cd_seq ?_
  refine cd_region ?_
  refine st (ev_assign rfl) rfl rfl rfl ?_
  refine at_own_nil 4 5 1 ?_
  refine at_heq (i := 4) (v' := .own (.slice none 0 0) 5 1 (ints .u8 [])) rfl rfl ?_
  refine op_nil ?_
  refine ax_then ?_
  refine At.regs (L' := [(0, _), (1, _), (4, _)]) (.cons rfl (.cons rfl (.cons rfl (.nil _)))) ?_
  refine cd_seq ?_
  refine cd_seq ?_
  refine cd_region ?_
  refine st (ev_move rfl) rfl rfl rfl ?_
  refine st (ev_eql_ptr_nil Try.underlying107 rfl rfl) rfl rfl rfl ?_
  refine st (ev_move rfl) rfl rfl rfl ?_
  refine st (ev_move rfl) rfl rfl rfl ?_
  refine st (ev_lss rfl rfl) rfl rfl rfl ?_
  refine st (ev_pick_f rfl rfl) rfl rfl rfl ?_
  refine st (ev_move rfl) rfl rfl rfl ?_
  refine at_eq (i := 12) (v' := .bool true) rfl (by simp only [Value.bool.injEq, decide_eq_true_eq, decide_eq_false_iff_not]; omega) ?_
  refine st_skip rfl rfl rfl ?_
  refine st_skip rfl rfl rfl ?_
  refine st_skip rfl rfl rfl ?_
  refine st_skip rfl rfl rfl ?_
  refine st_skip rfl rfl rfl ?_
  refine st_skip rfl rfl rfl ?_
  refine st_skip rfl rfl rfl ?_
  refine st (ev_pick_t rfl rfl) rfl rfl rfl ?_
  refine op_nil ?_
  refine ax_then ?_
  refine At.regs (L' := [(0, _), (1, _), (4, _), (20, _)]) (.cons rfl (.cons rfl (.cons rfl (.cons rfl (.nil _))))) ?_
  refine cd_true rfl ?_
  refine cd_seq ?_
  refine cd_region ?_
  refine st (ev_move rfl) rfl rfl rfl ?_
  refine st_call has81 rfl (fun w1 sw => rbad_any b rv bad w1 (sw.blk_eq (h := 0) rfl)) (mod_blk rfl) rfl rfl (fun _ _ => ?_)
  refine op_nil ?_
  refine ax_then ?_
  refine At.regs (L' := [(0, _), (1, _), (4, _)]) (.cons rfl (.cons rfl (.cons rfl (.nil _)))) ?_
  refine cd_seq ?_
  refine cd_region ?_
  refine st (ev_assign rfl) rfl rfl rfl ?_
  refine at_own_nil 4 5 1 ?_
  refine at_heq (i := 4) (v' := .own (.slice none 0 0) 5 1 (ints .u8 [])) rfl rfl ?_
  refine op_nil ?_
  refine ax_then ?_
  refine At.regs (L' := [(0, _), (1, _), (4, _)]) (.cons rfl (.cons rfl (.cons rfl (.nil _)))) ?_
  refine cd_ret ?_
  refine ax_then_ret ?_
  refine rt_tmp (.inl rfl) Try.results128 rfl ?_
  exact fun w1 sw => ⟨(Ky.nil0, .slice none 0 0), Rr.rUnd_no rv hf, rfl, by rw [show Rr.rBad r n = true from by rw [Rr.rBad, decide_eq_false hf]; rfl, Bool.or_true, show Rr.rOut r n = [] from by rw [Rr.rOut, if_neg hf]]; exact (sw.gives (N := [(0, _), (4, _)]) (.cons rfl (.cons rfl (.nil _)))).rn2 (by decide) 0 1⟩
set_option maxRecDepth 20000 in
set_option maxHeartbeats 2000000 in
theorem rrawg_far (b : Nat) (rv : Value) (bad : Bool) (r : List Int) (w : World) (hb : w.heap[b]? = some (.cells (List.toArray [rv, .bool bad]) 139)) (h : Rd w rv 1 (ints .u8 r)) (ho : FE.off b (.sl rv 1 (ints .u8 r))) (hr : r.length ≤ 140737488352000) (n : Int) (hn0 : 0 ≤ n) (hn : n > (r.length : Nat)) : Calls Try.prog 128 #[.pointer (some ⟨b, 0, none⟩), .int .i64 n] w (Post (ι := Value × Value) w [b] (fun x => Rr.Und rv r x.1 (Rr.rRest r n)) (fun x => x.2) (fun x => [(0, .blk (b) (.cells ([x.1, .bool (bad || Rr.rBad r n)]).toArray 139)), (1, .own (x.2) 5 1 (ints .u8 (Rr.rOut r n)))])) := by
  have hf : ¬ Rr.fitsR r n := fun hh => by have := hh.1; have := hh.2; omega
  refine calls_at (vs := [.pointer (some ⟨b, 0, none⟩), .int .i64 n]) (X := [b]) (H := [(0, .blk (b) (.cells ([rv, .bool (bad)]).toArray 139))]) (F := [(1, .sl rv 1 (ints .u8 r))]) 40 Try.func128 rfl rfl rfl ((Sat.blkX 0 hb).readb (f := .sl rv 1 (ints .u8 r)) 1 h ho) ?_
  refine cd_seq ?_
  refine cd_region ?_
  refine st (ev_assign rfl) rfl rfl rfl ?_
  refine at_own_nil 4 5 1 ?_
  refine at_heq (i := 4) (v' := .own (.slice none 0 0) 5 1 (ints .u8 [])) rfl rfl ?_
  refine op_nil ?_
  refine ax_then ?_
  refine At.regs (L' := [(0, _), (1, _), (4, _)]) (.cons rfl (.cons rfl (.cons rfl (.nil _)))) ?_
  refine cd_seq ?_
  refine cd_seq ?_
  refine cd_region ?_
  refine st (ev_move rfl) rfl rfl rfl ?_
  refine st (ev_eql_ptr_nil Try.underlying107 rfl rfl) rfl rfl rfl ?_
  refine st (ev_move rfl) rfl rfl rfl ?_
  refine st (ev_move rfl) rfl rfl rfl ?_
  refine st (ev_lss rfl rfl) rfl rfl rfl ?_
  refine st (ev_pick_f rfl rfl) rfl rfl rfl ?_
  refine st (ev_move rfl) rfl rfl rfl ?_
  refine at_eq (i := 12) (v' := .bool false) rfl (by simp only [Value.bool.injEq, decide_eq_true_eq, decide_eq_false_iff_not]; omega) ?_
  refine st (ev_move rfl) rfl rfl rfl ?_
  refine st (ev_move rfl) rfl rfl rfl ?_
  refine st (ev_nilCheck rfl) rfl rfl rfl ?_
  refine st (ev_fieldAddr (b := _) Try.underlying139 (f := _) rfl ty28 (by decide) rfl) rfl rfl rfl ?_
  refine st (ld_blk1 (h := 0) ty28 rfl rfl rfl rfl) rfl rfl rfl ?_
  refine st (ev_len_rdi (h := 1) Try.underlying28 rfl rfl) rfl rfl rfl ?_
  refine st (ev_gtr rfl rfl) rfl rfl rfl ?_
  refine st (ev_pick_f rfl rfl) rfl rfl rfl ?_
  refine op_nil ?_
  refine ax_then ?_
  refine At.regs (L' := [(0, _), (1, _), (4, _), (20, _)]) (.cons rfl (.cons rfl (.cons rfl (.cons rfl (.nil _))))) ?_
  refine cd_if_t rfl (by omega) ?_
  refine cd_seq ?_
  refine cd_region ?_
  refine st (ev_move rfl) rfl rfl rfl ?_
  refine st_call has81 rfl (fun w1 sw => rbad_any b rv bad w1 (sw.blk_eq (h := 0) rfl)) (mod_blk rfl) rfl rfl (fun _ _ => ?_)
  refine op_nil ?_
  refine ax_then ?_
  refine At.regs (L' := [(0, _), (1, _), (4, _)]) (.cons rfl (.cons rfl (.cons rfl (.nil _)))) ?_
  refine cd_seq ?_
  refine cd_region ?_
  refine st (ev_assign rfl) rfl rfl rfl ?_
  refine at_own_nil 4 5 1 ?_
  refine at_heq (i := 4) (v' := .own (.slice none 0 0) 5 1 (ints .u8 [])) rfl rfl ?_
  refine op_nil ?_
  refine ax_then ?_
  refine At.regs (L' := [(0, _), (1, _), (4, _)]) (.cons rfl (.cons rfl (.cons rfl (.nil _)))) ?_
  refine cd_ret ?_
  refine ax_then_ret ?_
  refine rt_tmp (.inl rfl) Try.results128 rfl ?_
  exact fun w1 sw => ⟨(Ky.nil0, .slice none 0 0), Rr.rUnd_no rv hf, rfl, by rw [show Rr.rBad r n = true from by rw [Rr.rBad, decide_eq_false hf]; rfl, Bool.or_true, show Rr.rOut r n = [] from by rw [Rr.rOut, if_neg hf]]; exact (sw.gives (N := [(0, _), (4, _)]) (.cons rfl (.cons rfl (.nil _)))).rn2 (by decide) 0 1⟩
theorem rraw_g (b : Nat) (rv : Value) (bad : Bool) (r : List Int) (w : World) (hb : w.heap[b]? = some (.cells (List.toArray [rv, .bool bad]) 139)) (h : Rd w rv 1 (ints .u8 r)) (ho : FE.off b (.sl rv 1 (ints .u8 r))) (hr : r.length ≤ 140737488352000) (n : Int) : Calls Try.prog 128 #[.pointer (some ⟨b, 0, none⟩), .int .i64 n] w (Post (ι := Value × Value) w [b] (fun x => Rr.Und rv r x.1 (Rr.rRest r n)) (fun x => x.2) (fun x => [(0, .blk (b) (.cells ([x.1, .bool (bad || Rr.rBad r n)]).toArray 139)), (1, .own (x.2) 5 1 (ints .u8 (Rr.rOut r n)))])) := by
  by_cases h0 : n < 0
  · exact rrawg_neg b rv bad r w hb h ho hr n h0
  · by_cases h1 : n > (r.length : Nat)
    · exact rrawg_far b rv bad r w hb h ho hr n (by omega) h1
    · exact rrawg_ok b rv bad r w hb h ho hr n ⟨by omega, by omega⟩
set_option maxRecDepth 20000 in
set_option maxHeartbeats 1000000 in
theorem qbad_any (b : Nat) (rv : Value) (bad : Bool) (w : World) (hb : w.heap[b]? = some (.cells (List.toArray [rv, .bool bad]) 112)) : Calls Try.prog 84 #[.pointer (some ⟨b, 0, none⟩)] w (Post (ι := Unit) w [b] (fun _ => True) (fun _ => .tuple #[]) (fun _ => [(0, .blk (b) (.cells ([Ky.nil0, .bool (true)]).toArray 112))])) := by
  refine calls_at (vs := [.pointer (some ⟨b, 0, none⟩)]) (X := [b]) (H := [(0, .blk (b) (.cells ([rv, .bool (bad)]).toArray 112))]) (F := []) 8 Try.func84 rfl rfl rfl (Sat.blkX 0 hb) ?_
  refine cd_seq ?_
  refine cd_region ?_
  refine st (ev_move rfl) rfl rfl rfl ?_
  refine st (ev_nilCheck rfl) rfl rfl rfl ?_
  refine st (ev_fieldAddr (b := _) Try.underlying112 (f := _) rfl ty4 (by decide) rfl) rfl rfl rfl ?_
  refine st_store1 0 ty4 rfl rfl rfl rfl (show 1 < 2 from by decide) rfl ?_
  refine at_heq (i := 0) (v' := .blk (b) (.cells ([rv, .bool (true)]).toArray 112)) rfl rfl ?_
  refine op_nil ?_
  refine ax_then ?_
  refine At.regs (L' := [(0, _)]) (.cons rfl (.nil _)) ?_
  refine cd_region ?_
  refine st (ev_move rfl) rfl rfl rfl ?_
  refine st (ev_nilCheck rfl) rfl rfl rfl ?_
  refine st (ev_fieldAddr (b := _) Try.underlying112 (f := _) rfl ty28 (by decide) rfl) rfl rfl rfl ?_
  refine st_store1 0 ty28 rfl rfl rfl rfl (show 0 < 2 from by decide) rfl ?_
  refine at_heq (i := 0) (v' := .blk (b) (.cells ([Ky.nil0, .bool (true)]).toArray 112)) rfl rfl ?_
  refine op_nil ?_
  refine rt_none (.inr rfl) Try.results84 ?_
  exact fun w1 sw => ⟨(), trivial, rfl, sw.gives (N := [(0, _)]) (.cons rfl (.nil _))⟩
set_option maxRecDepth 20000 in
set_option maxHeartbeats 2000000 in
theorem qrawg_ok (b : Nat) (rv : Value) (bad : Bool) (r : List Int) (w : World) (hb : w.heap[b]? = some (.cells (List.toArray [rv, .bool bad]) 112)) (h : Rd w rv 1 (ints .u8 r)) (ho : FE.off b (.sl rv 1 (ints .u8 r))) (hr : r.length ≤ 140737488352000) (he : bad = true → r = []) (n : Int) (hf : Rr.fitsR r n) : Calls Try.prog 83 #[.pointer (some ⟨b, 0, none⟩), .int .i64 n] w (Post (ι := Value × Value) w [b] (fun x => Rr.Und rv r x.1 (Rr.rRest r n)) (fun x => x.2) (fun x => [(0, .blk (b) (.cells ([x.1, .bool (bad || Rr.rBad r n)]).toArray 112)), (1, .own (x.2) 5 1 (ints .u8 (Rr.rOut r n)))])) := by
  have hf0 := hf.1
  have hf1 := hf.2
  refine calls_at (vs := [.pointer (some ⟨b, 0, none⟩), .int .i64 n]) (X := [b]) (H := [(0, .blk (b) (.cells ([rv, .bool (bad)]).toArray 112))]) (F := [(1, .sl rv 1 (ints .u8 r))]) 41 Try.func83 rfl rfl rfl ((Sat.blkX 0 hb).readb (f := .sl rv 1 (ints .u8 r)) 1 h ho) ?_
  refine cd_seq ?_
  refine cd_region ?_
  refine st (ev_assign rfl) rfl rfl rfl ?_
  refine at_own_nil 4 5 1 ?_
  refine at_heq (i := 4) (v' := .own (.slice none 0 0) 5 1 (ints .u8 [])) rfl rfl ?_
  refine op_nil ?_
  refine ax_then ?_
  refine At.regs (L' := [(0, _), (1, _), (4, _)]) (.cons rfl (.cons rfl (.cons rfl (.nil _)))) ?_
  refine cd_seq ?_
  refine cd_seq ?_
  refine cd_region ?_
  refine st (ev_move rfl) rfl rfl rfl ?_
  refine st (ev_lss rfl rfl) rfl rfl rfl ?_
  refine st (ev_move rfl) rfl rfl rfl ?_
  refine at_eq (i := 8) (v' := .bool false) rfl (by simp only [Value.bool.injEq, decide_eq_true_eq, decide_eq_false_iff_not]; omega) ?_
  refine st (ev_move rfl) rfl rfl rfl ?_
  refine st (ev_move rfl) rfl rfl rfl ?_
  refine st (ev_nilCheck rfl) rfl rfl rfl ?_
  refine st (ev_fieldAddr (b := _) Try.underlying112 (f := _) rfl ty28 (by decide) rfl) rfl rfl rfl ?_
  refine st (ld_blk1 (h := 0) ty28 rfl rfl rfl rfl) rfl rfl rfl ?_
  refine st (ev_len_rdi (h := 1) Try.underlying28 rfl rfl) rfl rfl rfl ?_
  refine st (ev_gtr rfl rfl) rfl rfl rfl ?_
  refine st (ev_pick_f rfl rfl) rfl rfl rfl ?_
  refine op_nil ?_
  refine ax_then ?_
  refine At.regs (L' := [(0, _), (1, _), (4, _), (16, _)]) (.cons rfl (.cons rfl (.cons rfl (.cons rfl (.nil _))))) ?_
  refine cd_if_f rfl (by omega) ?_
  refine cd_skip ?_
  refine ax_then ?_
  refine At.regs (L' := [(0, _), (1, _), (4, _)]) (.cons rfl (.cons rfl (.cons rfl (.nil _)))) ?_
  refine cd_seq ?_
  refine cd_seq ?_
  refine cd_region ?_
  refine st (ev_move rfl) rfl rfl rfl ?_
  refine st (ev_nilCheck rfl) rfl rfl rfl ?_
  refine st (ev_fieldAddr (b := _) Try.underlying112 (f := _) rfl ty4 (by decide) rfl) rfl rfl rfl ?_
  refine st (ld_blk1 (h := 0) ty4 rfl rfl rfl rfl) rfl rfl rfl ?_
  refine op_nil ?_
  refine ax_then ?_
  refine At.regs (L' := [(0, _), (1, _), (4, _), (22, _)]) (.cons rfl (.cons rfl (.cons rfl (.cons rfl (.nil _))))) ?_
  refine cd_cond rfl (fun hc22 => ?_) (fun hc22 => ?_)
  ·
    have hr0 := he hc22
    have hn0 : n = 0 := by rw [hr0] at hf1; simp at hf1; omega
    refine cd_seq ?_
    refine cd_region ?_
    refine st (ev_assign rfl) rfl rfl rfl ?_
    refine at_own_nil 4 5 1 ?_
    refine at_heq (i := 4) (v' := .own (.slice none 0 0) 5 1 (ints .u8 [])) rfl rfl ?_
    refine op_nil ?_
    refine ax_then ?_
    refine At.regs (L' := [(0, _), (1, _), (4, _)]) (.cons rfl (.cons rfl (.cons rfl (.nil _)))) ?_
    refine cd_ret ?_
    refine ax_then_ret ?_
    refine rt_tmp (.inl rfl) Try.results83 rfl ?_
    exact fun w1 sw => ⟨(rv, .slice none 0 0), by rw [Rr.rRest, if_pos hf, hn0]; exact Rr.Und.refl rv r, rfl, by rw [hc22, Bool.true_or, show Rr.rOut r n = [] from by rw [Rr.rOut, if_pos hf, hr0]; simp]; rw [hc22] at sw; exact (sw.gives (N := [(0, _), (4, _)]) (.cons rfl (.cons rfl (.nil _)))).rn2 (by decide) 0 1⟩
  ·
    refine cd_skip ?_
    refine ax_then ?_
    refine At.regs (L' := [(0, _), (1, _), (4, _)]) (.cons rfl (.cons rfl (.cons rfl (.nil _)))) ?_
    refine cd_seq ?_
    refine cd_region ?_
    refine st_bsi (h := 23) (xs := []) Try.underlying28 ty5 (by decide) rfl rfl (by decide) rfl rfl (fun b23 => ?_)
    refine st (ev_move rfl) rfl rfl rfl ?_
    refine st (ev_nilCheck rfl) rfl rfl rfl ?_
    refine st (ev_fieldAddr (b := _) Try.underlying112 (f := _) rfl ty28 (by decide) rfl) rfl rfl rfl ?_
    refine st (ld_blk1 (h := 0) ty28 rfl rfl rfl rfl) rfl rfl rfl ?_
    refine st (ev_move rfl) rfl rfl rfl ?_
    refine st (ev_slicei_hi Try.underlying28 ty5 rfl rfl (fun w1 sw => sw.sl_rd (h := 1) rfl) (by omega) (by first | omega | (simp only [List.length_append, List.length_cons, List.length_nil, List.length_set, List.length_replicate, List.length_take, List.length_drop, ints_length, wr_length, sha_len, node_len, recov_len, Ky.named_len, Ky.keyPub_len, Ky.hashOf_len] <;> omega))) rfl rfl rfl ?_
    refine at_eq (i := 29) (v' := cutAt 1 rv 0 n.toNat) rfl rfl ?_
    refine st_appendi (h := 23) (cs := r.take n.toNat) Try.underlying28 Try.underlying28 ty5 rfl rfl rfl rfl (fun w1 sw => (by have := (sw.sl_rd (h := 1) rfl).cuti (lo := 0) (hi := n.toNat) (by omega) (by omega); simpa using this)) (by rw [List.length_take]; simp only [List.length_nil]; omega) (by decide) rfl rfl (fun v30 => ?_)
    refine at_heq (i := 23) (v' := .own (v30) 5 1 (ints .u8 (Rr.rOut r n))) rfl (by rw [show Rr.rOut r n = r.take n.toNat from if_pos hf, List.nil_append]) ?_
    refine st (ev_assign rfl) rfl rfl rfl ?_
    refine op_nil ?_
    refine ax_then ?_
    refine At.regs (L' := [(0, _), (1, _), (4, _), (5, _)]) (.cons rfl (.cons rfl (.cons rfl (.cons rfl (.nil _))))) ?_
    refine cd_seq ?_
    refine cd_region ?_
    refine st (ev_move rfl) rfl rfl rfl ?_
    refine st (ev_move rfl) rfl rfl rfl ?_
    refine st (ev_nilCheck rfl) rfl rfl rfl ?_
    refine st (ev_fieldAddr (b := _) Try.underlying112 (f := _) rfl ty28 (by decide) rfl) rfl rfl rfl ?_
    refine st (ld_blk1 (h := 0) ty28 rfl rfl rfl rfl) rfl rfl rfl ?_
    refine st (ev_move rfl) rfl rfl rfl ?_
    refine st (ev_slicei_lo Try.underlying28 ty5 rfl rfl (fun w1 sw => sw.sl_rd (h := 1) rfl) (by omega) (by first | omega | (simp only [List.length_append, List.length_cons, List.length_nil, List.length_set, List.length_replicate, List.length_take, List.length_drop, ints_length, wr_length, sha_len, node_len, recov_len, Ky.named_len, Ky.keyPub_len, Ky.hashOf_len] <;> omega))) rfl rfl rfl ?_
    refine st (ev_nilCheck rfl) rfl rfl rfl ?_
    refine st (ev_fieldAddr (b := _) Try.underlying112 (f := _) rfl ty28 (by decide) rfl) rfl rfl rfl ?_
    refine st_store1 0 ty28 rfl rfl rfl (rd_shape (h.cuti (lo := n.toNat) (hi := r.length) (by omega) (Nat.le_refl _))).2 (show 0 < 2 from by decide) rfl ?_
    refine at_heq (i := 0) (v' := .blk (b) (.cells ([cutAt 1 rv n.toNat r.length, .bool (bad)]).toArray 112)) rfl rfl ?_
    refine op_nil ?_
    refine ax_then ?_
    refine At.regs (L' := [(4, _), (5, _)]) (.cons rfl (.cons rfl (.nil _))) ?_
    refine cd_seq ?_
    refine cd_region ?_
    refine st (ev_move rfl) rfl rfl rfl ?_
    refine st (ev_assign rfl) rfl rfl rfl ?_
    refine op_nil ?_
    refine ax_then ?_
    refine At.regs (L' := [(4, _)]) (.cons rfl (.nil _)) ?_
    refine cd_ret ?_
    refine rt_tmp (.inl rfl) Try.results83 rfl ?_
    exact fun w1 sw => ⟨(cutAt 1 rv n.toNat r.length, v30), Rr.rUnd_ok rv hf, rfl, by rw [show Rr.rBad r n = false from by rw [Rr.rBad, decide_eq_true hf]; rfl, Bool.or_false]; exact (sw.gives (N := [(0, _), (23, _)]) (.cons rfl (.cons rfl (.nil _)))).rn2 (by decide) 0 1⟩
set_option maxRecDepth 20000 in
set_option maxHeartbeats 2000000 in
theorem qrawg_neg (b : Nat) (rv : Value) (bad : Bool) (r : List Int) (w : World) (hb : w.heap[b]? = some (.cells (List.toArray [rv, .bool bad]) 112)) (h : Rd w rv 1 (ints .u8 r)) (ho : FE.off b (.sl rv 1 (ints .u8 r))) (hr : r.length ≤ 140737488352000) (he : bad = true → r = []) (n : Int) (hn : n < 0) : Calls Try.prog 83 #[.pointer (some ⟨b, 0, none⟩), .int .i64 n] w (Post (ι := Value × Value) w [b] (fun x => Rr.Und rv r x.1 (Rr.rRest r n)) (fun x => x.2) (fun x => [(0, .blk (b) (.cells ([x.1, .bool (bad || Rr.rBad r n)]).toArray 112)), (1, .own (x.2) 5 1 (ints .u8 (Rr.rOut r n)))])) := by
  have hf : ¬ Rr.fitsR r n := fun hh => by have := hh.1; have := hh.2; omega
  refine calls_at (vs := [.pointer (some ⟨b, 0, none⟩), .int .i64 n]) (X := [b]) (H := [(0, .blk (b) (.cells ([rv, .bool (bad)]).toArray 112))]) (F := [(1, .sl rv 1 (ints .u8 r))]) 41 Try.func83 rfl rfl rfl ((Sat.blkX 0 hb).readb (f := .sl rv 1 (ints .u8 r)) 1 h ho) ?_
  refine cd_seq ?_
  refine cd_region ?_
  refine st (ev_assign rfl) rfl rfl rfl ?_
  refine at_own_nil 4 5 1 ?_
  refine at_heq (i := 4) (v' := .own (.slice none 0 0) 5 1 (ints .u8 [])) rfl rfl ?_
  refine op_nil ?_
  refine ax_then ?_
  refine At.regs (L' := [(0, _), (1, _), (4, _)]) (.cons rfl (.cons rfl (.cons rfl (.nil _)))) ?_
  refine cd_seq ?_
  refine cd_seq ?_
  refine cd_region ?_
  refine st (ev_move rfl) rfl rfl rfl ?_
  refine st (ev_lss rfl rfl) rfl rfl rfl ?_
  refine st (ev_move rfl) rfl rfl rfl ?_
  refine at_eq (i := 8) (v' := .bool true) rfl (by simp only [Value.bool.injEq, decide_eq_true_eq, decide_eq_false_iff_not]; omega) ?_
  refine st_skip rfl rfl rfl ?_
  refine st_skip rfl rfl rfl ?_
  refine st_skip rfl rfl rfl ?_
  refine st_skip rfl rfl rfl ?_
  refine st_skip rfl rfl rfl ?_
  refine st_skip rfl rfl rfl ?_
  refine st_skip rfl rfl rfl ?_
  refine st (ev_pick_t rfl rfl) rfl rfl rfl ?_
  refine op_nil ?_
  refine ax_then ?_
  refine At.regs (L' := [(0, _), (1, _), (4, _), (16, _)]) (.cons rfl (.cons rfl (.cons rfl (.cons rfl (.nil _))))) ?_
  refine cd_true rfl ?_
  refine cd_region ?_
  refine st (ev_move rfl) rfl rfl rfl ?_
  refine st_call has84 rfl (fun w1 sw => qbad_any b rv bad w1 (sw.blk_eq (h := 0) rfl)) (mod_blk rfl) rfl rfl (fun _ _ => ?_)
  refine op_nil ?_
  refine ax_then ?_
  refine At.regs (L' := [(0, _), (1, _), (4, _)]) (.cons rfl (.cons rfl (.cons rfl (.nil _)))) ?_
  refine cd_seq ?_
  refine cd_seq ?_
  refine cd_region ?_
  refine st (ev_move rfl) rfl rfl rfl ?_
  refine st (ev_nilCheck rfl) rfl rfl rfl ?_
  refine st (ev_fieldAddr (b := _) Try.underlying112 (f := _) rfl ty4 (by decide) rfl) rfl rfl rfl ?_
  refine st (ld_blk1 (h := 0) ty4 rfl rfl rfl rfl) rfl rfl rfl ?_
  refine op_nil ?_
  refine ax_then ?_
  refine At.regs (L' := [(0, _), (1, _), (4, _), (22, _)]) (.cons rfl (.cons rfl (.cons rfl (.cons rfl (.nil _))))) ?_
  refine cd_true rfl ?_
  refine cd_seq ?_
  refine cd_region ?_
  refine st (ev_assign rfl) rfl rfl rfl ?_
  refine at_own_nil 4 5 1 ?_
  refine at_heq (i := 4) (v' := .own (.slice none 0 0) 5 1 (ints .u8 [])) rfl rfl ?_
  refine op_nil ?_
  refine ax_then ?_
  refine At.regs (L' := [(0, _), (1, _), (4, _)]) (.cons rfl (.cons rfl (.cons rfl (.nil _)))) ?_
  refine cd_ret ?_
  refine ax_then_ret ?_
  refine rt_tmp (.inl rfl) Try.results83 rfl ?_
  exact fun w1 sw => ⟨(Ky.nil0, .slice none 0 0), Rr.rUnd_no rv hf, rfl, by rw [show Rr.rBad r n = true from by rw [Rr.rBad, decide_eq_false hf]; rfl, Bool.or_true, show Rr.rOut r n = [] from by rw [Rr.rOut, if_neg hf]]; exact (sw.gives (N := [(0, _), (4, _)]) (.cons rfl (.cons rfl (.nil _)))).rn2 (by decide) 0 1⟩
set_option maxRecDepth 20000 in
set_option maxHeartbeats 2000000 in
theorem qrawg_far (b : Nat) (rv : Value) (bad : Bool) (r : List Int) (w : World) (hb : w.heap[b]? = some (.cells (List.toArray [rv, .bool bad]) 112)) (h : Rd w rv 1 (ints .u8 r)) (ho : FE.off b (.sl rv 1 (ints .u8 r))) (hr : r.length ≤ 140737488352000) (he : bad = true → r = []) (n : Int) (hn0 : 0 ≤ n) (hn : n > (r.length : Nat)) : Calls Try.prog 83 #[.pointer (some ⟨b, 0, none⟩), .int .i64 n] w (Post (ι := Value × Value) w [b] (fun x => Rr.Und rv r x.1 (Rr.rRest r n)) (fun x => x.2) (fun x => [(0, .blk (b) (.cells ([x.1, .bool (bad || Rr.rBad r n)]).toArray 112)), (1, .own (x.2) 5 1 (ints .u8 (Rr.rOut r n)))])) := by
  have hf : ¬ Rr.fitsR r n := fun hh => by have := hh.1; have := hh.2; omega
  refine calls_at (vs := [.pointer (some ⟨b, 0, none⟩), .int .i64 n]) (X := [b]) (H := [(0, .blk (b) (.cells ([rv, .bool (bad)]).toArray 112))]) (F := [(1, .sl rv 1 (ints .u8 r))]) 41 Try.func83 rfl rfl rfl ((Sat.blkX 0 hb).readb (f := .sl rv 1 (ints .u8 r)) 1 h ho) ?_
  refine cd_seq ?_
  refine cd_region ?_
  refine st (ev_assign rfl) rfl rfl rfl ?_
  refine at_own_nil 4 5 1 ?_
  refine at_heq (i := 4) (v' := .own (.slice none 0 0) 5 1 (ints .u8 [])) rfl rfl ?_
  refine op_nil ?_
  refine ax_then ?_
  refine At.regs (L' := [(0, _), (1, _), (4, _)]) (.cons rfl (.cons rfl (.cons rfl (.nil _)))) ?_
  refine cd_seq ?_
  refine cd_seq ?_
  refine cd_region ?_
  refine st (ev_move rfl) rfl rfl rfl ?_
  refine st (ev_lss rfl rfl) rfl rfl rfl ?_
  refine st (ev_move rfl) rfl rfl rfl ?_
  refine at_eq (i := 8) (v' := .bool false) rfl (by simp only [Value.bool.injEq, decide_eq_true_eq, decide_eq_false_iff_not]; omega) ?_
  refine st (ev_move rfl) rfl rfl rfl ?_
  refine st (ev_move rfl) rfl rfl rfl ?_
  refine st (ev_nilCheck rfl) rfl rfl rfl ?_
  refine st (ev_fieldAddr (b := _) Try.underlying112 (f := _) rfl ty28 (by decide) rfl) rfl rfl rfl ?_
  refine st (ld_blk1 (h := 0) ty28 rfl rfl rfl rfl) rfl rfl rfl ?_
  refine st (ev_len_rdi (h := 1) Try.underlying28 rfl rfl) rfl rfl rfl ?_
  refine st (ev_gtr rfl rfl) rfl rfl rfl ?_
  refine st (ev_pick_f rfl rfl) rfl rfl rfl ?_
  refine op_nil ?_
  refine ax_then ?_
  refine At.regs (L' := [(0, _), (1, _), (4, _), (16, _)]) (.cons rfl (.cons rfl (.cons rfl (.cons rfl (.nil _))))) ?_
  refine cd_if_t rfl (by omega) ?_
  refine cd_region ?_
  refine st (ev_move rfl) rfl rfl rfl ?_
  refine st_call has84 rfl (fun w1 sw => qbad_any b rv bad w1 (sw.blk_eq (h := 0) rfl)) (mod_blk rfl) rfl rfl (fun _ _ => ?_)
  refine op_nil ?_
  refine ax_then ?_
  refine At.regs (L' := [(0, _), (1, _), (4, _)]) (.cons rfl (.cons rfl (.cons rfl (.nil _)))) ?_
  refine cd_seq ?_
  refine cd_seq ?_
  refine cd_region ?_
  refine st (ev_move rfl) rfl rfl rfl ?_
  refine st (ev_nilCheck rfl) rfl rfl rfl ?_
  refine st (ev_fieldAddr (b := _) Try.underlying112 (f := _) rfl ty4 (by decide) rfl) rfl rfl rfl ?_
  refine st (ld_blk1 (h := 0) ty4 rfl rfl rfl rfl) rfl rfl rfl ?_
  refine op_nil ?_
  refine ax_then ?_
  refine At.regs (L' := [(0, _), (1, _), (4, _), (22, _)]) (.cons rfl (.cons rfl (.cons rfl (.cons rfl (.nil _))))) ?_
  refine cd_true rfl ?_
  refine cd_seq ?_
  refine cd_region ?_
  refine st (ev_assign rfl) rfl rfl rfl ?_
  refine at_own_nil 4 5 1 ?_
  refine at_heq (i := 4) (v' := .own (.slice none 0 0) 5 1 (ints .u8 [])) rfl rfl ?_
  refine op_nil ?_
  refine ax_then ?_
  refine At.regs (L' := [(0, _), (1, _), (4, _)]) (.cons rfl (.cons rfl (.cons rfl (.nil _)))) ?_
  refine cd_ret ?_
  refine ax_then_ret ?_
  refine rt_tmp (.inl rfl) Try.results83 rfl ?_
  exact fun w1 sw => ⟨(Ky.nil0, .slice none 0 0), Rr.rUnd_no rv hf, rfl, by rw [show Rr.rBad r n = true from by rw [Rr.rBad, decide_eq_false hf]; rfl, Bool.or_true, show Rr.rOut r n = [] from by rw [Rr.rOut, if_neg hf]]; exact (sw.gives (N := [(0, _), (4, _)]) (.cons rfl (.cons rfl (.nil _)))).rn2 (by decide) 0 1⟩
theorem qraw_g (b : Nat) (rv : Value) (bad : Bool) (r : List Int) (w : World) (hb : w.heap[b]? = some (.cells (List.toArray [rv, .bool bad]) 112)) (h : Rd w rv 1 (ints .u8 r)) (ho : FE.off b (.sl rv 1 (ints .u8 r))) (hr : r.length ≤ 140737488352000) (he : bad = true → r = []) (n : Int) : Calls Try.prog 83 #[.pointer (some ⟨b, 0, none⟩), .int .i64 n] w (Post (ι := Value × Value) w [b] (fun x => Rr.Und rv r x.1 (Rr.rRest r n)) (fun x => x.2) (fun x => [(0, .blk (b) (.cells ([x.1, .bool (bad || Rr.rBad r n)]).toArray 112)), (1, .own (x.2) 5 1 (ints .u8 (Rr.rOut r n)))])) := by
  by_cases h0 : n < 0
  · exact qrawg_neg b rv bad r w hb h ho hr he n h0
  · by_cases h1 : n > (r.length : Nat)
    · exact qrawg_far b rv bad r w hb h ho hr he n (by omega) h1
    · exact qrawg_ok b rv bad r w hb h ho hr he n ⟨by omega, by omega⟩
end Go.Proofs.Ytgfnmolbagilmaa

namespace Go.Proofs.Ytgfnmolbagilmaa
open Go Go.RowKit Fw
open Sha
open Ots
open Mk
set_option linter.unusedVariables false
set_option linter.unusedSimpArgs false
set_option maxRecDepth 20000 in
set_option maxHeartbeats 2000000 in
theorem qnum_any (n : Int) (w : World) : Calls Try.prog 103 #[.int .i64 n] w (Post (ι := Value) w [] (fun _ => True) (fun v => v) (fun v => [(0, .own (v) 5 1 (ints .u8 (Rr.num n)))])) := by
  refine calls_at (vs := [.int .i64 n]) (X := []) (H := []) (F := []) 27 Try.func103 rfl rfl rfl (Sat.start0 w) ?_
  refine cd_seq ?_
  refine cd_region ?_
  refine st (ev_assign rfl) rfl rfl rfl ?_
  refine at_own_nil 2 5 1 ?_
  refine at_heq (i := 2) (v' := .own (.slice none 0 0) 5 1 (ints .u8 [])) rfl rfl ?_
  refine op_nil ?_
  refine ax_then ?_
  refine At.regs (L' := [(0, _), (2, _)]) (.cons rfl (.cons rfl (.nil _))) ?_
  refine cd_seq ?_
  refine cd_region ?_
  refine st (ev_assign rfl) rfl rfl rfl ?_
  refine op_nil ?_
  refine ax_then ?_
  refine At.regs (L' := [(0, _), (2, _), (3, _)]) (.cons rfl (.cons rfl (.cons rfl (.nil _)))) ?_
  refine cd_join (ι := Unit) (fun _ => True) (fun _ => [(3, .int .u64 (Rr.clampN n : Int))]) (fun _ => []) (fun _ => []) ?_ (fun _ hj => ?_)
  ·
    refine cd_seq ?_
    refine cd_region ?_
    refine st (ev_move rfl) rfl rfl rfl ?_
    refine st (ev_gtr rfl rfl) rfl rfl rfl ?_
    refine op_nil ?_
    refine ax_then ?_
    refine At.regs (L' := [(0, _), (2, _), (3, _), (6, _)]) (.cons rfl (.cons rfl (.cons rfl (.cons rfl (.nil _))))) ?_
    refine cd_if rfl (fun hc6 => ?_) (fun hc6 => ?_)
    ·
      refine cd_region ?_
      refine st (ev_assign rfl) rfl rfl rfl ?_
      refine op_nil ?_
      refine ax_eq (i := 3) (v' := .int .u64 (Rr.clampN n : Int)) rfl (by rw [show (Rr.clampN n : Int) = 4611686018427387904 by unfold Rr.clampN; omega]) ?_
      exact at_met (()) (trivial) (.cons rfl (.nil _)) (.nil _) (.nil _)
    ·
      refine cd_seq ?_
      refine cd_region ?_
      refine st (ev_move rfl) rfl rfl rfl ?_
      refine st (ev_gtr rfl rfl) rfl rfl rfl ?_
      refine op_nil ?_
      refine ax_then ?_
      refine At.regs (L' := [(0, _), (2, _), (3, _), (8, _)]) (.cons rfl (.cons rfl (.cons rfl (.cons rfl (.nil _))))) ?_
      refine cd_if rfl (fun hc8 => ?_) (fun hc8 => ?_)
      ·
        refine cd_region ?_
        refine st (ev_move rfl) rfl rfl rfl ?_
        refine st (ev_convu64 Try.underlying3 Try.underlying135 rfl (by omega) (by omega)) rfl rfl rfl ?_
        refine st (ev_assign rfl) rfl rfl rfl ?_
        refine op_nil ?_
        refine ax_eq (i := 3) (v' := .int .u64 (Rr.clampN n : Int)) rfl (by rw [show (Rr.clampN n : Int) = n by unfold Rr.clampN; omega]) ?_
        exact at_met (()) (trivial) (.cons rfl (.nil _)) (.nil _) (.nil _)
      ·
        refine cd_skip ?_
        refine ax_eq (i := 3) (v' := .int .u64 (Rr.clampN n : Int)) rfl (by rw [show (Rr.clampN n : Int) = 0 by unfold Rr.clampN; omega]) ?_
        exact at_met (()) (trivial) (.cons rfl (.nil _)) (.nil _) (.nil _)
  ·
    refine cd_seq ?_
    refine cd_region ?_
    refine st (ev_assign rfl) rfl rfl rfl ?_
    refine at_own_nil 4 5 1 ?_
    refine at_heq (i := 4) (v' := .own (.slice none 0 0) 5 1 (ints .u8 [])) rfl rfl ?_
    refine op_nil ?_
    refine ax_then ?_
    refine At.regs (L' := [(3, _), (4, _)]) (.cons rfl (.cons rfl (.nil _))) ?_
    refine cd_seq ?_
    refine cd_block ?_
    refine cd_loop (ι := Nat × Value × List Int) (fun y => y.2.2 ++ Rr.encN y.1 = Rr.num n ∧ y.1 ≤ 4611686018427387904) (fun y => y.1)
        (fun y => [(3, .int .u64 (y.1 : Int)), (4, y.2.1)])
        (fun y => [(4, .own (y.2.1) 5 1 (ints .u8 (y.2.2)))])
        (fun y => [])
        (Rr.clampN n, .slice none 0 0, []) (⟨rfl, Rr.clampN_le n⟩) (.cons rfl (.cons rfl (.nil _))) (.cons rfl (.nil _)) (.nil _) (fun y hi => ?_)
    obtain ⟨u, v, out⟩ := y
    dsimp only at hi ⊢
    have hi2 := hi.2
    have hol : out.length ≤ 9 := by
      have h1 := congrArg List.length hi.1
      rw [List.length_append] at h1
      have h2 := Rr.num_len n
      omega
    refine cd_seq ?_
    refine cd_seq ?_
    refine cd_region ?_
    refine st (ev_move rfl) rfl rfl rfl ?_
    refine st (ev_geq rfl rfl) rfl rfl rfl ?_
    refine op_nil ?_
    refine ax_then ?_
    refine At.regs (L' := [(3, _), (4, _), (11, _), (12, _)]) (.cons rfl (.cons rfl (.cons rfl (.cons rfl (.nil _))))) ?_
    refine cd_if rfl (fun hc12 => ?_) (fun hc12 => ?_)
    ·
      refine cd_skip ?_
      refine ax_then ?_
      refine At.regs (L' := [(3, _), (4, _), (11, _), (12, _)]) (.cons rfl (.cons rfl (.cons rfl (.cons rfl (.nil _))))) ?_
      refine cd_block ?_
      refine cd_seq ?_
      refine cd_region ?_
      refine st (ev_move rfl) rfl rfl rfl ?_
      refine st (ev_move rfl) rfl rfl rfl ?_
      refine st (ev_and rfl rfl) rfl rfl rfl ?_
      refine st (ev_conv Try.underlying135 Try.underlying5 rfl) rfl rfl rfl ?_
      refine st (ev_or rfl rfl) rfl rfl rfl ?_
      refine at_eq (i := 17) (v' := .int .u8 (((u % 128 + 128 : Nat)) : Int)) rfl (by rw [Rr.lay8r u (by omega)]) ?_
      refine st_bsi (h := 18) (xs := [_]) Try.underlying28 ty5 (by decide) rfl rfl (by decide) rfl rfl (fun b18 => ?_)
      refine st_appendi (h := 4) Try.underlying28 Try.underlying28 ty5 rfl rfl rfl rfl (fun w1 sw => sw.own_rd (h := 18) rfl) (by first | omega | (simp only [List.length_append, List.length_cons, List.length_nil, List.length_set, List.length_replicate, List.length_take, List.length_drop, ints_length, wr_length, sha_len, node_len, recov_len, Ky.named_len, Ky.keyPub_len, Ky.hashOf_len] <;> omega)) (by decide) rfl rfl (fun v19 => ?_)
      refine st (ev_assign rfl) rfl rfl rfl ?_
      refine op_nil ?_
      refine ax_then ?_
      refine At.regs (L' := [(3, _), (4, _), (11, _), (12, _), (13, _), (14, _), (15, _), (16, _), (17, _), (18, _), (19, _)]) (.cons rfl (.cons rfl (.cons rfl (.cons rfl (.cons rfl (.cons rfl (.cons rfl (.cons rfl (.cons rfl (.cons rfl (.cons rfl (.nil _)))))))))))) ?_
      refine cd_region ?_
      refine st (ev_move rfl) rfl rfl rfl ?_
      refine st (ev_shr rfl rfl (by omega)) rfl rfl rfl ?_
      refine at_eq (i := 21) (v' := .int .u64 ((u / 128 : Nat) : Int)) rfl (by rw [Rr.shr7]) ?_
      refine st (ev_assign rfl) rfl rfl rfl ?_
      refine op_nil ?_
      refine ax_block ?_
      exact at_again ((u / 128, v19, out ++ [(((u % 128 + 128 : Nat)) : Int)])) (⟨by show (out ++ [(((u % 128 + 128 : Nat)) : Int)]) ++ Rr.encN (u / 128) = Rr.num n; rw [List.append_assoc, List.singleton_append, ← Rr.encN_ge (by omega)]; exact hi.1, by show u / 128 ≤ 4611686018427387904; omega⟩) (by show u / 128 < u; omega) (.cons rfl (.cons rfl (.nil _))) (.cons rfl (.nil _)) (.nil _)
    ·
      refine cd_exit ?_
      refine ax_then_exit ?_
      refine ax_then_exit ?_
      refine ax_block_hit ?_
      refine ax_then ?_
      refine At.regs (L' := [(3, _), (4, _)]) (.cons rfl (.cons rfl (.nil _))) ?_
      refine cd_seq ?_
      refine cd_region ?_
      refine st (ev_move rfl) rfl rfl rfl ?_
      refine st (ev_move rfl) rfl rfl rfl ?_
      refine st (ev_conv Try.underlying135 Try.underlying5 rfl) rfl rfl rfl ?_
      refine at_eq (i := 24) (v' := .int .u8 (u : Int)) rfl (by rw [Rr.low8 (by omega)]) ?_
      refine st_bsi (h := 25) (xs := [_]) Try.underlying28 ty5 (by decide) rfl rfl (by decide) rfl rfl (fun b25 => ?_)
      refine st_appendi (h := 4) Try.underlying28 Try.underlying28 ty5 rfl rfl rfl rfl (fun w1 sw => sw.own_rd (h := 25) rfl) (by first | omega | (simp only [List.length_append, List.length_cons, List.length_nil, List.length_set, List.length_replicate, List.length_take, List.length_drop, ints_length, wr_length, sha_len, node_len, recov_len, Ky.named_len, Ky.keyPub_len, Ky.hashOf_len] <;> omega)) (by decide) rfl rfl (fun v26 => ?_)
      refine at_heq (i := 4) (v' := .own (v26) 5 1 (ints .u8 (Rr.num n))) rfl (by rw [← hi.1, Rr.encN_lt (by omega)]) ?_
      refine st (ev_assign rfl) rfl rfl rfl ?_
      refine op_nil ?_
      refine ax_then ?_
      refine At.regs (L' := [(2, _)]) (.cons rfl (.nil _)) ?_
      refine cd_ret ?_
      refine rt_tmp (.inl rfl) Try.results103 rfl ?_
      exact fun w1 sw => ⟨v26, trivial, rfl, (sw.gives (N := [(4, _)]) (.cons rfl (.nil _))).rn 0⟩
set_option maxRecDepth 20000 in
set_option maxHeartbeats 2000000 in
theorem qnums_any (q : Value) (ns : List Int) (w : World) (hn : ns.length ≤ 1000) (h : Rd w q 1 (ints .i64 ns)) : Calls Try.prog 71 #[q] w (Post (ι := Value) w [] (fun _ => True) (fun v => v) (fun v => [(0, .own (v) 5 1 (ints .u8 (Rr.nums ns)))])) := by
  refine calls_at (vs := [q]) (X := []) (H := []) (F := [(20, .sl q 1 (ints .i64 ns))]) 19 Try.func71 rfl rfl rfl (Sat.rd0 20 h) ?_
  refine cd_seq ?_
  refine cd_region ?_
  refine st (ev_assign rfl) rfl rfl rfl ?_
  refine at_own_nil 2 5 1 ?_
  refine at_heq (i := 2) (v' := .own (.slice none 0 0) 5 1 (ints .u8 [])) rfl rfl ?_
  refine op_nil ?_
  refine ax_then ?_
  refine At.regs (L' := [(0, _), (2, _)]) (.cons rfl (.cons rfl (.nil _))) ?_
  refine cd_seq ?_
  refine cd_region ?_
  refine st (ev_assign rfl) rfl rfl rfl ?_
  refine at_own_nil 3 5 1 ?_
  refine at_heq (i := 3) (v' := .own (.slice none 0 0) 5 1 (ints .u8 [])) rfl rfl ?_
  refine op_nil ?_
  refine ax_then ?_
  refine At.regs (L' := [(0, _), (2, _), (3, _)]) (.cons rfl (.cons rfl (.cons rfl (.nil _)))) ?_
  refine cd_seq ?_
  refine cd_seq ?_
  refine cd_region ?_
  refine st (ev_assign rfl) rfl rfl rfl ?_
  refine op_nil ?_
  refine ax_then ?_
  refine At.regs (L' := [(0, _), (2, _), (3, _), (4, _)]) (.cons rfl (.cons rfl (.cons rfl (.cons rfl (.nil _))))) ?_
  refine cd_block ?_
  refine cd_loop (ι := Nat × Value) (fun x => x.1 ≤ ns.length) (fun x => ns.length - x.1)
      (fun x => [(0, q), (3, x.2), (4, .int .i64 (x.1 : Int))])
      (fun x => [(3, .own (x.2) 5 1 (ints .u8 (Rr.nums (ns.take x.1))))])
      (fun x => [(20, .sl q 1 (ints .i64 ns))])
      (0, .slice none 0 0) (by omega) (.cons rfl (.cons rfl (.cons rfl (.nil _)))) (.cons rfl (.nil _)) (.cons rfl (.nil _)) (fun x hi => ?_)
  have hml := Rr.nums_len (ns.take x.1)
  have htl : (ns.take x.1).length ≤ ns.length := by rw [List.length_take]; omega
  refine cd_seq ?_
  refine cd_seq ?_
  refine cd_region ?_
  refine st (ev_move rfl) rfl rfl rfl ?_
  refine st (ev_move rfl) rfl rfl rfl ?_
  refine st (ev_len_rdi (h := 20) Try.underlying49 rfl rfl) rfl rfl rfl ?_
  refine st (ev_lss rfl rfl) rfl rfl rfl ?_
  refine op_nil ?_
  refine ax_then ?_
  refine At.regs (L' := [(0, _), (3, _), (4, _), (5, _), (6, _), (7, _), (8, _)]) (.cons rfl (.cons rfl (.cons rfl (.cons rfl (.cons rfl (.cons rfl (.cons rfl (.nil _)))))))) ?_
  refine cd_if rfl (fun hc8 => ?_) (fun hc8 => ?_)
  ·
    refine cd_skip ?_
    refine ax_then ?_
    refine At.regs (L' := [(0, _), (3, _), (4, _), (5, _), (6, _), (7, _), (8, _)]) (.cons rfl (.cons rfl (.cons rfl (.cons rfl (.cons rfl (.cons rfl (.cons rfl (.nil _)))))))) ?_
    refine cd_seq ?_
    refine cd_block ?_
    refine cd_region ?_
    refine st (ev_move rfl) rfl rfl rfl ?_
    refine st (ev_move rfl) rfl rfl rfl ?_
    refine st (ev_move rfl) rfl rfl rfl ?_
    refine st (ev_indexAddr_rdi (h := 20) Try.underlying49 ty3 rfl rfl rfl (by omega) (by first | omega | (simp only [List.length_append, List.length_cons, List.length_nil, List.length_set, List.length_replicate, List.length_take, List.length_drop, ints_length, wr_length, sha_len, node_len, recov_len, Ky.named_len, Ky.keyPub_len, Ky.hashOf_len] <;> omega))) rfl rfl rfl ?_
    refine st (ld_rd1 (h := 20) ty3 rfl rfl rfl (ints_get _ _ _ (by first | omega | (simp only [List.length_append, List.length_cons, List.length_nil, List.length_set, List.length_replicate, List.length_take, List.length_drop, ints_length, wr_length, sha_len, node_len, recov_len, Ky.named_len, Ky.keyPub_len, Ky.hashOf_len] <;> omega) | rfl))) rfl rfl rfl ?_
    refine st_call has103 rfl (fun w1 sw => rn 16 (qnum_any _ w1)) nil_all rfl rfl (fun v16 _ => ?_)
    have hnl := Rr.num_len (ns.getD (x.1 : Int).toNat 0)
    have hnx : ns.getD (x.1 : Int).toNat 0 = ns[x.1]'(by omega) := by rw [Int.toNat_natCast, List.getD_eq_getElem?_getD, List.getElem?_eq_getElem (by omega)]; rfl
    refine st_appendi (h := 3) Try.underlying28 Try.underlying28 ty5 rfl rfl rfl rfl (fun w1 sw => sw.own_rd (h := 16) rfl) (by first | omega | (simp only [List.length_append, List.length_cons, List.length_nil, List.length_set, List.length_replicate, List.length_take, List.length_drop, ints_length, wr_length, sha_len, node_len, recov_len, Ky.named_len, Ky.keyPub_len, Ky.hashOf_len] <;> omega)) (by decide) rfl rfl (fun v17 => ?_)
    refine st (ev_assign rfl) rfl rfl rfl ?_
    refine op_nil ?_
    refine ax_block ?_
    refine ax_then ?_
    refine At.regs (L' := [(0, _), (3, _), (4, _), (5, _), (6, _), (7, _), (8, _), (11, _), (12, _), (13, _), (14, _), (15, _), (16, _), (17, _)]) (.cons rfl (.cons rfl (.cons rfl (.cons rfl (.cons rfl (.cons rfl (.cons rfl (.cons rfl (.cons rfl (.cons rfl (.cons rfl (.cons rfl (.cons rfl (.cons rfl (.nil _))))))))))))))) ?_
    refine cd_region ?_
    refine st (ev_move rfl) rfl rfl rfl ?_
    refine st (ev_add64 rfl rfl (by omega) (by omega)) rfl rfl rfl ?_
    refine st (ev_assign rfl) rfl rfl rfl ?_
    refine op_nil ?_
    refine ax_heq (i := 3) (v' := .own (v17) 5 1 (ints .u8 (Rr.nums (ns.take (x.1 + 1))))) rfl (by rw [List.take_succ_eq_append_getElem (by omega), Rr.nums_snoc, hnx]) ?_
    exact at_again ((x.1 + 1, v17)) (by show x.1 + 1 ≤ ns.length; omega) (by omega) (.cons rfl (.cons rfl (.cons rfl (.nil _)))) (.cons rfl (.nil _)) (.cons rfl (.nil _))
  ·
    obtain ⟨j, v⟩ := x
    dsimp only at hi hc8 ⊢
    obtain rfl : j = ns.length := by omega
    refine at_heq (i := 3) (v' := .own (v) 5 1 (ints .u8 (Rr.nums ns))) rfl (by rw [List.take_length]) ?_
    refine cd_exit ?_
    refine ax_then_exit ?_
    refine ax_then_exit ?_
    refine ax_block_hit ?_
    refine ax_then ?_
    refine At.regs (L' := [(3, _)]) (.cons rfl (.nil _)) ?_
    refine cd_seq ?_
    refine cd_region ?_
    refine st (ev_move rfl) rfl rfl rfl ?_
    refine st (ev_assign rfl) rfl rfl rfl ?_
    refine op_nil ?_
    refine ax_then ?_
    refine At.regs (L' := [(2, _)]) (.cons rfl (.nil _)) ?_
    refine cd_ret ?_
    refine rt_tmp (.inl rfl) Try.results71 rfl ?_
    exact fun w1 sw => ⟨v, trivial, rfl, (sw.gives (N := [(3, _)]) (.cons rfl (.nil _))).rn 0⟩
end Go.Proofs.Ytgfnmolbagilmaa

namespace Go.Proofs.Ytgfnmolbagilmaa
open Go Go.RowKit Fw
open Sha
open Ots
open Mk
set_option linter.unusedVariables false
set_option linter.unusedSimpArgs false
set_option maxRecDepth 20000 in
set_option maxHeartbeats 8000000 in
theorem qrnum_g (b : Nat) (rv : Value) (bad : Bool) (r : List Int) (w : World) (hb : w.heap[b]? = some (.cells (List.toArray [rv, .bool bad]) 112)) (h : Rd w rv 1 (ints .u8 r)) (ho : FE.off b (.sl rv 1 (ints .u8 r))) (hr : r.length ≤ 140737488352000) (he : bad = true → r = []) (hB : Byt r) : Calls Try.prog 53 #[.pointer (some ⟨b, 0, none⟩)] w (Post (ι := Value) w [b] (fun x => Rr.Und rv r x (Rr.nRest r)) (fun _ => .int .i64 (Rr.nVal r)) (fun x => [(0, .blk (b) (.cells ([x, .bool (bad || Rr.nBad r)]).toArray 112))])) := by
  refine calls_at (vs := [.pointer (some ⟨b, 0, none⟩)]) (X := [b]) (H := [(0, .blk (b) (.cells ([rv, .bool (bad)]).toArray 112))]) (F := [(1, .sl rv 1 (ints .u8 r))]) 57 Try.func53 rfl rfl rfl ((Sat.blkX 0 hb).readb (f := .sl rv 1 (ints .u8 r)) 1 h ho) ?_
  refine cd_seq ?_
  refine cd_region ?_
  refine st (ev_assign rfl) rfl rfl rfl ?_
  refine op_nil ?_
  refine ax_then ?_
  refine At.regs (L' := [(0, _), (2, _)]) (.cons rfl (.cons rfl (.nil _))) ?_
  refine cd_seq ?_
  refine cd_region ?_
  refine st (ev_assign rfl) rfl rfl rfl ?_
  refine op_nil ?_
  refine ax_then ?_
  refine At.regs (L' := [(0, _), (2, _), (3, _)]) (.cons rfl (.cons rfl (.cons rfl (.nil _)))) ?_
  refine cd_seq ?_
  refine cd_seq ?_
  refine cd_region ?_
  refine st (ev_assign rfl) rfl rfl rfl ?_
  refine op_nil ?_
  refine ax_then ?_
  refine At.regs (L' := [(0, _), (2, _), (3, _), (4, _)]) (.cons rfl (.cons rfl (.cons rfl (.cons rfl (.nil _))))) ?_
  refine cd_block ?_
  refine cd_loop (ι := Nat × Int × Value × List Int) (fun x => x.1 ≤ 10 ∧ Rr.numG x.1 x.2.1 x.2.2.2 = Rr.numS r ∧ Rr.Und rv r x.2.2.1 x.2.2.2 ∧ (bad = true → x.2.2.2 = []) ∧ x.2.2.2 = r.drop x.1) (fun x => 10 - x.1)
      (fun x => [(0, .pointer (some ⟨b, 0, none⟩)), (3, .int .u64 x.2.1), (4, .int .i64 (x.1 : Int))])
      (fun x => [(0, .blk (b) (.cells ([x.2.2.1, .bool (bad)]).toArray 112))])
      (fun x => [(1, .sl x.2.2.1 1 (ints .u8 x.2.2.2))])
      (0, 0, rv, r) (⟨by omega, rfl, Rr.Und.refl rv r, he, rfl⟩) (.cons rfl (.cons rfl (.cons rfl (.nil _)))) (.cons rfl (.nil _)) (.cons rfl (.nil _)) (fun x hi => ?_)
  obtain ⟨i, u, vc, rc⟩ := x
  dsimp only at hi ⊢
  have hi1 := hi.1
  have hrl := hi.2.2.1.len
  refine cd_seq ?_
  refine cd_seq ?_
  refine cd_region ?_
  refine st (ev_move rfl) rfl rfl rfl ?_
  refine st (ev_lss rfl rfl) rfl rfl rfl ?_
  refine op_nil ?_
  refine ax_then ?_
  refine At.regs (L' := [(0, _), (3, _), (4, _), (7, _), (8, _)]) (.cons rfl (.cons rfl (.cons rfl (.cons rfl (.cons rfl (.nil _)))))) ?_
  refine cd_if rfl (fun hc8 => ?_) (fun hc8 => ?_)
  ·
    refine cd_skip ?_
    refine ax_then ?_
    refine At.regs (L' := [(0, _), (3, _), (4, _), (7, _), (8, _)]) (.cons rfl (.cons rfl (.cons rfl (.cons rfl (.cons rfl (.nil _)))))) ?_
    refine cd_seq ?_
    refine cd_block ?_
    refine cd_seq ?_
    refine cd_region ?_
    refine st (ev_move rfl) rfl rfl rfl ?_
    refine st_call has83 rfl (fun w1 sw => rn2 0 12 (qraw_g b vc bad rc w1 (sw.blk_eq (h := 0) rfl) (sw.sl_rd (h := 1) rfl) (sw.off 1 _ 0 _ rfl rfl _ (by simp [Ent.ids])) (by omega) hi.2.2.2.1 1)) (mod_blk2 rfl) rfl rfl (fun x12 hx12 => ?_)
    obtain ⟨vd, vo⟩ := x12
    dsimp only at hx12 ⊢
    refine at_fmap (h := 1) 1 rfl (fun w1 hh => hx12.rd w1 hh) hx12.blk hx12.nil ?_
    refine st (ev_assign rfl) rfl rfl rfl ?_
    refine op_nil ?_
    refine ax_then ?_
    refine At.regs (L' := [(0, _), (3, _), (4, _), (5, _), (7, _), (8, _), (11, _), (12, _)]) (.cons rfl (.cons rfl (.cons rfl (.cons rfl (.cons rfl (.cons rfl (.cons rfl (.cons rfl (.nil _))))))))) ?_
    refine cd_seq ?_
    refine cd_seq ?_
    refine cd_region ?_
    refine st (ev_move rfl) rfl rfl rfl ?_
    refine st (ev_nilCheck rfl) rfl rfl rfl ?_
    refine st (ev_fieldAddr (b := _) Try.underlying112 (f := _) rfl ty4 (by decide) rfl) rfl rfl rfl ?_
    refine st (ld_blk1 (h := 0) ty4 rfl rfl rfl rfl) rfl rfl rfl ?_
    refine op_nil ?_
    refine ax_then ?_
    refine At.regs (L' := [(0, _), (3, _), (4, _), (5, _), (7, _), (8, _), (11, _), (12, _), (13, _), (14, _), (15, _), (16, _)]) (.cons rfl (.cons rfl (.cons rfl (.cons rfl (.cons rfl (.cons rfl (.cons rfl (.cons rfl (.cons rfl (.cons rfl (.cons rfl (.cons rfl (.nil _))))))))))))) ?_
    refine cd_cond rfl (fun hc16 => ?_) (fun hc16 => ?_)
    ·
      refine cd_seq ?_
      refine cd_region ?_
      refine st (ev_assign rfl) rfl rfl rfl ?_
      refine op_nil ?_
      refine ax_then ?_
      refine At.regs (L' := [(0, _), (2, _), (3, _), (4, _), (5, _), (7, _), (8, _), (11, _), (12, _), (13, _), (14, _), (15, _), (16, _)]) (.cons rfl (.cons rfl (.cons rfl (.cons rfl (.cons rfl (.cons rfl (.cons rfl (.cons rfl (.cons rfl (.cons rfl (.cons rfl (.cons rfl (.cons rfl (.nil _)))))))))))))) ?_
      refine cd_ret ?_
      refine ax_then_ret ?_
      refine ax_block_ret ?_
      refine ax_then_ret ?_
      refine ax_then_ret ?_
      refine ax_block_ret ?_
      refine ax_then_ret ?_
      refine rt_tmp (.inl rfl) Try.results53 rfl ?_
      first
      | (have hrc : rc = [] := by
           cases hbb : bad with
           | true => exact hi.2.2.2.1 hbb
           | false => rw [hbb] at hc16; exact Rr.rBad_1 hc16
         have hnone : Rr.numS r = none := by rw [← hi.2.1, hrc]; rfl
         exact fun w1 sw => ⟨vd, by rw [(Rr.nVal_no hnone).2.2, ← show Rr.rRest rc 1 = [] from by rw [hrc]; decide]; exact hi.2.2.1.trans hx12, by rw [(Rr.nVal_no hnone).1], by rw [(Rr.nVal_no hnone).2.1, Bool.or_true, ← hc16]; exact sw.gives (N := [(0, _)]) (.cons rfl (.nil _))⟩)
      | (exact fun w1 sw => ⟨vd, by rw [(Rr.nVal_ok hs).2.2, show r.drop (i + 1) = Rr.rRest (c :: t) 1 from by rw [hraw.2.1, ← htl]]; exact hi.2.2.1.trans hx12, by rw [(Rr.nVal_ok hs).1], by rw [(Rr.nVal_ok hs).2.1, Bool.or_false]; exact sw.gives (N := [(0, _)]) (.cons rfl (.nil _))⟩)
      | (have hnone : Rr.numS r = none := by
           rw [← hi.2.1]
           first
           | exact Rr.numG_brk (by omega)
           | exact Rr.numG_big (by omega) (by omega)
           | (rw [show i = 10 by omega]; exact Rr.numG_ten)
         exact fun w1 sw => ⟨Ky.nil0, Rr.nUnd_no rv hnone, by rw [(Rr.nVal_no hnone).1], by rw [(Rr.nVal_no hnone).2.1, Bool.or_true]; exact sw.gives (N := [(0, _)]) (.cons rfl (.nil _))⟩)
    ·
      have hnb : ¬ Rr.rBad rc 1 = true := fun hh => by rw [hh, Bool.or_true] at hc16; cases hc16
      obtain ⟨c, t, rfl⟩ := Rr.rBad_cons hnb
      have hraw := Rr.rOut_1 c t
      have hcB := (hi.2.2.1.byt hB) c (by simp)
      have htl : t = r.drop (i + 1) := by
        have h1 := congrArg List.tail hi.2.2.2.2
        simpa using h1
      refine at_heq (i := 0) (v' := .blk (b) (.cells ([vd, .bool (bad)]).toArray 112)) rfl (by rw [hraw.2.2, Bool.or_false]) ?_
      refine at_heq (i := 12) (v' := .own (vo) 5 1 (ints .u8 ([c]))) rfl (by rw [hraw.1]) ?_
      refine cd_skip ?_
      refine ax_then ?_
      refine At.regs (L' := [(0, _), (3, _), (4, _), (5, _), (7, _), (8, _), (11, _), (12, _), (13, _), (14, _), (15, _), (16, _)]) (.cons rfl (.cons rfl (.cons rfl (.cons rfl (.cons rfl (.cons rfl (.cons rfl (.cons rfl (.cons rfl (.cons rfl (.cons rfl (.cons rfl (.nil _))))))))))))) ?_
      refine cd_seq ?_
      refine cd_region ?_
      refine st (ev_move rfl) rfl rfl rfl ?_
      refine st (ev_indexAddr_owni (h := 12) Try.underlying28 ty5 rfl rfl rfl (by omega) (by first | omega | (simp only [List.length_append, List.length_cons, List.length_nil, List.length_set, List.length_replicate, List.length_take, List.length_drop, ints_length, wr_length, sha_len, node_len, recov_len, Ky.named_len, Ky.keyPub_len, Ky.hashOf_len] <;> omega))) rfl rfl rfl ?_
      refine st (ld_own1 (h := 12) ty5 rfl rfl rfl (ints_get _ _ _ (by first | omega | (simp only [List.length_append, List.length_cons, List.length_nil, List.length_set, List.length_replicate, List.length_take, List.length_drop, ints_length, wr_length, sha_len, node_len, recov_len, Ky.named_len, Ky.keyPub_len, Ky.hashOf_len] <;> omega) | rfl))) rfl rfl rfl ?_
      refine at_eq (i := 19) (v' := .int .u8 c) rfl rfl ?_
      refine st (ev_assign rfl) rfl rfl rfl ?_
      refine op_nil ?_
      refine ax_then ?_
      refine At.regs (L' := [(0, _), (3, _), (4, _), (5, _), (6, _), (7, _), (8, _), (11, _), (12, _), (13, _), (14, _), (15, _), (16, _), (17, _), (18, _), (19, _)]) (.cons rfl (.cons rfl (.cons rfl (.cons rfl (.cons rfl (.cons rfl (.cons rfl (.cons rfl (.cons rfl (.cons rfl (.cons rfl (.cons rfl (.cons rfl (.cons rfl (.cons rfl (.cons rfl (.nil _))))))))))))))))) ?_
      refine cd_seq ?_
      refine cd_seq ?_
      refine cd_region ?_
      refine st (ev_move rfl) rfl rfl rfl ?_
      refine st (ev_eql rfl rfl) rfl rfl rfl ?_
      refine st (ev_move rfl) rfl rfl rfl ?_
      refine at_split_if (i := 22) rfl (fun hg22 => ?_) (fun hg22 => ?_)
      ·
        refine st (ev_move rfl) rfl rfl rfl ?_
        refine st (ev_gtr rfl rfl) rfl rfl rfl ?_
        refine st (ev_pick_t rfl rfl) rfl rfl rfl ?_
        refine op_nil ?_
        refine ax_then ?_
        refine At.regs (L' := [(0, _), (3, _), (4, _), (5, _), (6, _), (7, _), (8, _), (11, _), (12, _), (13, _), (14, _), (15, _), (16, _), (17, _), (18, _), (19, _), (20, _), (21, _), (22, _), (23, _), (24, _), (25, _)]) (.cons rfl (.cons rfl (.cons rfl (.cons rfl (.cons rfl (.cons rfl (.cons rfl (.cons rfl (.cons rfl (.cons rfl (.cons rfl (.cons rfl (.cons rfl (.cons rfl (.cons rfl (.cons rfl (.cons rfl (.cons rfl (.cons rfl (.cons rfl (.cons rfl (.cons rfl (.nil _))))))))))))))))))))))) ?_
        refine cd_if rfl (fun hc25 => ?_) (fun hc25 => ?_)
        ·
          refine cd_exit ?_
          refine ax_then_exit ?_
          refine ax_block_miss (by decide) ?_
          refine ax_then_exit ?_
          refine ax_then_exit ?_
          refine ax_block_hit ?_
          refine ax_then ?_
          refine At.regs (L' := [(0, _)]) (.cons rfl (.nil _)) ?_
          refine cd_seq ?_
          refine cd_region ?_
          refine st (ev_move rfl) rfl rfl rfl ?_
          refine st_call has84 rfl (fun w1 sw => qbad_any b _ _ w1 (sw.blk_eq (h := 0) rfl)) (mod_blk rfl) rfl rfl (fun _ _ => ?_)
          refine op_nil ?_
          refine ax_then ?_
          refine At.regs (L' := []) (.nil _) ?_
          refine cd_seq ?_
          refine cd_region ?_
          refine st (ev_assign rfl) rfl rfl rfl ?_
          refine op_nil ?_
          refine ax_then ?_
          refine At.regs (L' := [(2, _)]) (.cons rfl (.nil _)) ?_
          refine cd_ret ?_
          refine rt_tmp (.inl rfl) Try.results53 rfl ?_
          first
          | (have hrc : rc = [] := by
               cases hbb : bad with
               | true => exact hi.2.2.2.1 hbb
               | false => rw [hbb] at hc16; exact Rr.rBad_1 hc16
             have hnone : Rr.numS r = none := by rw [← hi.2.1, hrc]; rfl
             exact fun w1 sw => ⟨vd, by rw [(Rr.nVal_no hnone).2.2, ← show Rr.rRest rc 1 = [] from by rw [hrc]; decide]; exact hi.2.2.1.trans hx12, by rw [(Rr.nVal_no hnone).1], by rw [(Rr.nVal_no hnone).2.1, Bool.or_true, ← hc16]; exact sw.gives (N := [(0, _)]) (.cons rfl (.nil _))⟩)
          | (exact fun w1 sw => ⟨vd, by rw [(Rr.nVal_ok hs).2.2, show r.drop (i + 1) = Rr.rRest (c :: t) 1 from by rw [hraw.2.1, ← htl]]; exact hi.2.2.1.trans hx12, by rw [(Rr.nVal_ok hs).1], by rw [(Rr.nVal_ok hs).2.1, Bool.or_false]; exact sw.gives (N := [(0, _)]) (.cons rfl (.nil _))⟩)
          | (have hnone : Rr.numS r = none := by
               rw [← hi.2.1]
               first
               | exact Rr.numG_brk (by omega)
               | exact Rr.numG_big (by omega) (by omega)
               | (rw [show i = 10 by omega]; exact Rr.numG_ten)
             exact fun w1 sw => ⟨Ky.nil0, Rr.nUnd_no rv hnone, by rw [(Rr.nVal_no hnone).1], by rw [(Rr.nVal_no hnone).2.1, Bool.or_true]; exact sw.gives (N := [(0, _)]) (.cons rfl (.nil _))⟩)
        ·
          refine cd_skip ?_
          refine ax_then ?_
          refine At.regs (L' := [(0, _), (3, _), (4, _), (5, _), (6, _), (7, _), (8, _), (11, _), (12, _), (13, _), (14, _), (15, _), (16, _), (17, _), (18, _), (19, _), (20, _), (21, _), (22, _), (23, _), (24, _), (25, _)]) (.cons rfl (.cons rfl (.cons rfl (.cons rfl (.cons rfl (.cons rfl (.cons rfl (.cons rfl (.cons rfl (.cons rfl (.cons rfl (.cons rfl (.cons rfl (.cons rfl (.cons rfl (.cons rfl (.cons rfl (.cons rfl (.cons rfl (.cons rfl (.cons rfl (.cons rfl (.nil _))))))))))))))))))))))) ?_
          refine cd_seq ?_
          refine cd_seq ?_
          refine cd_region ?_
          refine st (ev_move rfl) rfl rfl rfl ?_
          refine st (ev_eql rfl rfl) rfl rfl rfl ?_
          refine st (ev_move rfl) rfl rfl rfl ?_
          refine at_eq (i := 28) (v' := .bool true) rfl (by simp only [Value.bool.injEq, decide_eq_true_eq, decide_eq_false_iff_not]; exact hg22) ?_
          refine st (ev_move rfl) rfl rfl rfl ?_
          refine st (ev_gtr rfl rfl) rfl rfl rfl ?_
          refine st (ev_pick_t rfl rfl) rfl rfl rfl ?_
          refine op_nil ?_
          refine ax_then ?_
          refine At.regs (L' := [(0, _), (3, _), (4, _), (5, _), (6, _), (7, _), (8, _), (11, _), (12, _), (13, _), (14, _), (15, _), (16, _), (17, _), (18, _), (19, _), (20, _), (21, _), (22, _), (23, _), (24, _), (25, _), (26, _), (27, _), (28, _), (29, _), (30, _), (31, _)]) (.cons rfl (.cons rfl (.cons rfl (.cons rfl (.cons rfl (.cons rfl (.cons rfl (.cons rfl (.cons rfl (.cons rfl (.cons rfl (.cons rfl (.cons rfl (.cons rfl (.cons rfl (.cons rfl (.cons rfl (.cons rfl (.cons rfl (.cons rfl (.cons rfl (.cons rfl (.cons rfl (.cons rfl (.cons rfl (.cons rfl (.cons rfl (.cons rfl (.nil _))))))))))))))))))))))))))))) ?_
          refine cd_if rfl (fun hc31 => ?_) (fun hc31 => ?_)
          ·
            refine cd_exit ?_
            refine ax_then_exit ?_
            refine ax_block_miss (by decide) ?_
            refine ax_then_exit ?_
            refine ax_then_exit ?_
            refine ax_block_hit ?_
            refine ax_then ?_
            refine At.regs (L' := [(0, _)]) (.cons rfl (.nil _)) ?_
            refine cd_seq ?_
            refine cd_region ?_
            refine st (ev_move rfl) rfl rfl rfl ?_
            refine st_call has84 rfl (fun w1 sw => qbad_any b _ _ w1 (sw.blk_eq (h := 0) rfl)) (mod_blk rfl) rfl rfl (fun _ _ => ?_)
            refine op_nil ?_
            refine ax_then ?_
            refine At.regs (L' := []) (.nil _) ?_
            refine cd_seq ?_
            refine cd_region ?_
            refine st (ev_assign rfl) rfl rfl rfl ?_
            refine op_nil ?_
            refine ax_then ?_
            refine At.regs (L' := [(2, _)]) (.cons rfl (.nil _)) ?_
            refine cd_ret ?_
            refine rt_tmp (.inl rfl) Try.results53 rfl ?_
            first
            | (have hrc : rc = [] := by
                 cases hbb : bad with
                 | true => exact hi.2.2.2.1 hbb
                 | false => rw [hbb] at hc16; exact Rr.rBad_1 hc16
               have hnone : Rr.numS r = none := by rw [← hi.2.1, hrc]; rfl
               exact fun w1 sw => ⟨vd, by rw [(Rr.nVal_no hnone).2.2, ← show Rr.rRest rc 1 = [] from by rw [hrc]; decide]; exact hi.2.2.1.trans hx12, by rw [(Rr.nVal_no hnone).1], by rw [(Rr.nVal_no hnone).2.1, Bool.or_true, ← hc16]; exact sw.gives (N := [(0, _)]) (.cons rfl (.nil _))⟩)
            | (exact fun w1 sw => ⟨vd, by rw [(Rr.nVal_ok hs).2.2, show r.drop (i + 1) = Rr.rRest (c :: t) 1 from by rw [hraw.2.1, ← htl]]; exact hi.2.2.1.trans hx12, by rw [(Rr.nVal_ok hs).1], by rw [(Rr.nVal_ok hs).2.1, Bool.or_false]; exact sw.gives (N := [(0, _)]) (.cons rfl (.nil _))⟩)
            | (have hnone : Rr.numS r = none := by
                 rw [← hi.2.1]
                 first
                 | exact Rr.numG_brk (by omega)
                 | exact Rr.numG_big (by omega) (by omega)
                 | (rw [show i = 10 by omega]; exact Rr.numG_ten)
               exact fun w1 sw => ⟨Ky.nil0, Rr.nUnd_no rv hnone, by rw [(Rr.nVal_no hnone).1], by rw [(Rr.nVal_no hnone).2.1, Bool.or_true]; exact sw.gives (N := [(0, _)]) (.cons rfl (.nil _))⟩)
          ·
            refine cd_skip ?_
            refine ax_then ?_
            refine At.regs (L' := [(0, _), (3, _), (4, _), (5, _), (6, _), (7, _), (8, _), (11, _), (12, _), (13, _), (14, _), (15, _), (16, _), (17, _), (18, _), (19, _), (20, _), (21, _), (22, _), (23, _), (24, _), (25, _), (26, _), (27, _), (28, _), (29, _), (30, _), (31, _)]) (.cons rfl (.cons rfl (.cons rfl (.cons rfl (.cons rfl (.cons rfl (.cons rfl (.cons rfl (.cons rfl (.cons rfl (.cons rfl (.cons rfl (.cons rfl (.cons rfl (.cons rfl (.cons rfl (.cons rfl (.cons rfl (.cons rfl (.cons rfl (.cons rfl (.cons rfl (.cons rfl (.cons rfl (.cons rfl (.cons rfl (.cons rfl (.cons rfl (.nil _))))))))))))))))))))))))))))) ?_
            refine cd_seq ?_
            refine cd_region ?_
            refine st (ev_move rfl) rfl rfl rfl ?_
            refine st (ev_move rfl) rfl rfl rfl ?_
            refine st (ev_and rfl rfl) rfl rfl rfl ?_
            refine st (ev_conv Try.underlying5 Try.underlying135 rfl) rfl rfl rfl ?_
            refine st (ev_move rfl) rfl rfl rfl ?_
            refine st (ev_mul64 rfl rfl (by omega) (by omega)) rfl rfl rfl ?_
            refine st (ev_convu64 Try.underlying3 Try.underlying136 rfl (by omega) (by omega)) rfl rfl rfl ?_
            refine st (ev_shl rfl rfl (by omega)) rfl rfl rfl ?_
            refine st (ev_or rfl rfl) rfl rfl rfl ?_
            refine at_eq (i := 40) (v' := .int .u64 (Rr.acc u c i)) rfl rfl ?_
            have hap := Rr.acc_pos u c i
            refine st (ev_assign rfl) rfl rfl rfl ?_
            refine op_nil ?_
            refine ax_then ?_
            refine At.regs (L' := [(0, _), (3, _), (4, _), (5, _), (6, _), (7, _), (8, _), (11, _), (12, _), (13, _), (14, _), (15, _), (16, _), (17, _), (18, _), (19, _), (20, _), (21, _), (22, _), (23, _), (24, _), (25, _), (26, _), (27, _), (28, _), (29, _), (30, _), (31, _), (32, _), (33, _), (34, _), (35, _), (36, _), (37, _), (38, _), (39, _), (40, _)]) (.cons rfl (.cons rfl (.cons rfl (.cons rfl (.cons rfl (.cons rfl (.cons rfl (.cons rfl (.cons rfl (.cons rfl (.cons rfl (.cons rfl (.cons rfl (.cons rfl (.cons rfl (.cons rfl (.cons rfl (.cons rfl (.cons rfl (.cons rfl (.cons rfl (.cons rfl (.cons rfl (.cons rfl (.cons rfl (.cons rfl (.cons rfl (.cons rfl (.cons rfl (.cons rfl (.cons rfl (.cons rfl (.cons rfl (.cons rfl (.cons rfl (.cons rfl (.cons rfl (.nil _)))))))))))))))))))))))))))))))))))))) ?_
            refine cd_seq ?_
            refine cd_seq ?_
            refine cd_region ?_
            refine st (ev_move rfl) rfl rfl rfl ?_
            refine st (ev_gtr rfl rfl) rfl rfl rfl ?_
            refine op_nil ?_
            refine ax_then ?_
            refine At.regs (L' := [(0, _), (3, _), (4, _), (5, _), (6, _), (7, _), (8, _), (11, _), (12, _), (13, _), (14, _), (15, _), (16, _), (17, _), (18, _), (19, _), (20, _), (21, _), (22, _), (23, _), (24, _), (25, _), (26, _), (27, _), (28, _), (29, _), (30, _), (31, _), (32, _), (33, _), (34, _), (35, _), (36, _), (37, _), (38, _), (39, _), (40, _), (41, _), (42, _)]) (.cons rfl (.cons rfl (.cons rfl (.cons rfl (.cons rfl (.cons rfl (.cons rfl (.cons rfl (.cons rfl (.cons rfl (.cons rfl (.cons rfl (.cons rfl (.cons rfl (.cons rfl (.cons rfl (.cons rfl (.cons rfl (.cons rfl (.cons rfl (.cons rfl (.cons rfl (.cons rfl (.cons rfl (.cons rfl (.cons rfl (.cons rfl (.cons rfl (.cons rfl (.cons rfl (.cons rfl (.cons rfl (.cons rfl (.cons rfl (.cons rfl (.cons rfl (.cons rfl (.cons rfl (.cons rfl (.nil _)))))))))))))))))))))))))))))))))))))))) ?_
            refine cd_if rfl (fun hc42 => ?_) (fun hc42 => ?_)
            ·
              refine cd_exit ?_
              refine ax_then_exit ?_
              refine ax_block_hit ?_
              refine ax_then ?_
              refine At.regs (L' := [(0, _), (3, _), (4, _), (5, _), (6, _), (7, _), (8, _), (11, _), (12, _), (13, _), (14, _), (15, _), (16, _), (17, _), (18, _), (19, _), (20, _), (21, _), (22, _), (23, _), (24, _), (25, _), (26, _), (27, _), (28, _), (29, _), (30, _), (31, _), (32, _), (33, _), (34, _), (35, _), (36, _), (37, _), (38, _), (39, _), (40, _), (41, _), (42, _)]) (.cons rfl (.cons rfl (.cons rfl (.cons rfl (.cons rfl (.cons rfl (.cons rfl (.cons rfl (.cons rfl (.cons rfl (.cons rfl (.cons rfl (.cons rfl (.cons rfl (.cons rfl (.cons rfl (.cons rfl (.cons rfl (.cons rfl (.cons rfl (.cons rfl (.cons rfl (.cons rfl (.cons rfl (.cons rfl (.cons rfl (.cons rfl (.cons rfl (.cons rfl (.cons rfl (.cons rfl (.cons rfl (.cons rfl (.cons rfl (.cons rfl (.cons rfl (.cons rfl (.cons rfl (.cons rfl (.nil _)))))))))))))))))))))))))))))))))))))))) ?_
              refine cd_region ?_
              refine st (ev_move rfl) rfl rfl rfl ?_
              refine st (ev_add64 rfl rfl (by omega) (by omega)) rfl rfl rfl ?_
              refine st (ev_assign rfl) rfl rfl rfl ?_
              refine op_nil ?_
              exact at_again ((i + 1, Rr.acc u c i, vd, Rr.rRest (c :: t) 1)) (⟨by show i + 1 ≤ 10; omega, by show Rr.numG (i + 1) (Rr.acc u c i) (Rr.rRest (c :: t) 1) = Rr.numS r; rw [hraw.2.1, ← Rr.numG_go (by omega) (by omega)]; exact hi.2.1, hi.2.2.1.trans hx12, fun hb2 => (hi.2.2.2.1 hb2 |> fun hh => by cases hh), by show Rr.rRest (c :: t) 1 = r.drop (i + 1); rw [hraw.2.1]; exact htl⟩) (by omega) (.cons rfl (.cons rfl (.cons rfl (.nil _)))) (.cons rfl (.nil _)) (.cons rfl (.nil _))
            ·
              refine cd_skip ?_
              refine ax_then ?_
              refine At.regs (L' := [(0, _), (3, _), (4, _), (5, _), (6, _), (7, _), (8, _), (11, _), (12, _), (13, _), (14, _), (15, _), (16, _), (17, _), (18, _), (19, _), (20, _), (21, _), (22, _), (23, _), (24, _), (25, _), (26, _), (27, _), (28, _), (29, _), (30, _), (31, _), (32, _), (33, _), (34, _), (35, _), (36, _), (37, _), (38, _), (39, _), (40, _), (41, _), (42, _)]) (.cons rfl (.cons rfl (.cons rfl (.cons rfl (.cons rfl (.cons rfl (.cons rfl (.cons rfl (.cons rfl (.cons rfl (.cons rfl (.cons rfl (.cons rfl (.cons rfl (.cons rfl (.cons rfl (.cons rfl (.cons rfl (.cons rfl (.cons rfl (.cons rfl (.cons rfl (.cons rfl (.cons rfl (.cons rfl (.cons rfl (.cons rfl (.cons rfl (.cons rfl (.cons rfl (.cons rfl (.cons rfl (.cons rfl (.cons rfl (.cons rfl (.cons rfl (.cons rfl (.cons rfl (.cons rfl (.nil _)))))))))))))))))))))))))))))))))))))))) ?_
              refine cd_seq ?_
              refine cd_seq ?_
              refine cd_region ?_
              refine st (ev_move rfl) rfl rfl rfl ?_
              refine st (ev_gtr rfl rfl) rfl rfl rfl ?_
              refine st (ev_move rfl) rfl rfl rfl ?_
              refine at_split_if (i := 45) rfl (fun hg45 => ?_) (fun hg45 => ?_)
              ·
                refine st (ev_move rfl) rfl rfl rfl ?_
                refine st (ev_eql rfl rfl) rfl rfl rfl ?_
                refine st (ev_pick_t rfl rfl) rfl rfl rfl ?_
                refine st (ev_move rfl) rfl rfl rfl ?_
                refine at_split_if (i := 49) rfl (fun hg49 => ?_) (fun hg49 => ?_)
                ·
                  refine st_skip rfl rfl rfl ?_
                  refine st_skip rfl rfl rfl ?_
                  refine st (ev_pick_t rfl rfl) rfl rfl rfl ?_
                  refine op_nil ?_
                  refine ax_then ?_
                  refine At.regs (L' := [(0, _), (3, _), (4, _), (5, _), (6, _), (7, _), (8, _), (11, _), (12, _), (13, _), (14, _), (15, _), (16, _), (17, _), (18, _), (19, _), (20, _), (21, _), (22, _), (23, _), (24, _), (25, _), (26, _), (27, _), (28, _), (29, _), (30, _), (31, _), (32, _), (33, _), (34, _), (35, _), (36, _), (37, _), (38, _), (39, _), (40, _), (41, _), (42, _), (43, _), (44, _), (45, _), (46, _), (47, _), (48, _), (49, _), (50, _), (51, _), (52, _)]) (.cons rfl (.cons rfl (.cons rfl (.cons rfl (.cons rfl (.cons rfl (.cons rfl (.cons rfl (.cons rfl (.cons rfl (.cons rfl (.cons rfl (.cons rfl (.cons rfl (.cons rfl (.cons rfl (.cons rfl (.cons rfl (.cons rfl (.cons rfl (.cons rfl (.cons rfl (.cons rfl (.cons rfl (.cons rfl (.cons rfl (.cons rfl (.cons rfl (.cons rfl (.cons rfl (.cons rfl (.cons rfl (.cons rfl (.cons rfl (.cons rfl (.cons rfl (.cons rfl (.cons rfl (.cons rfl (.cons rfl (.cons rfl (.cons rfl (.cons rfl (.cons rfl (.cons rfl (.cons rfl (.cons rfl (.cons rfl (.cons rfl (.nil _)))))))))))))))))))))))))))))))))))))))))))))))))) ?_
                  refine cd_true rfl ?_
                  refine cd_exit ?_
                  refine ax_then_exit ?_
                  refine ax_block_miss (by decide) ?_
                  refine ax_then_exit ?_
                  refine ax_then_exit ?_
                  refine ax_block_hit ?_
                  refine ax_then ?_
                  refine At.regs (L' := [(0, _)]) (.cons rfl (.nil _)) ?_
                  refine cd_seq ?_
                  refine cd_region ?_
                  refine st (ev_move rfl) rfl rfl rfl ?_
                  refine st_call has84 rfl (fun w1 sw => qbad_any b _ _ w1 (sw.blk_eq (h := 0) rfl)) (mod_blk rfl) rfl rfl (fun _ _ => ?_)
                  refine op_nil ?_
                  refine ax_then ?_
                  refine At.regs (L' := []) (.nil _) ?_
                  refine cd_seq ?_
                  refine cd_region ?_
                  refine st (ev_assign rfl) rfl rfl rfl ?_
                  refine op_nil ?_
                  refine ax_then ?_
                  refine At.regs (L' := [(2, _)]) (.cons rfl (.nil _)) ?_
                  refine cd_ret ?_
                  refine rt_tmp (.inl rfl) Try.results53 rfl ?_
                  first
                  | (have hrc : rc = [] := by
                       cases hbb : bad with
                       | true => exact hi.2.2.2.1 hbb
                       | false => rw [hbb] at hc16; exact Rr.rBad_1 hc16
                     have hnone : Rr.numS r = none := by rw [← hi.2.1, hrc]; rfl
                     exact fun w1 sw => ⟨vd, by rw [(Rr.nVal_no hnone).2.2, ← show Rr.rRest rc 1 = [] from by rw [hrc]; decide]; exact hi.2.2.1.trans hx12, by rw [(Rr.nVal_no hnone).1], by rw [(Rr.nVal_no hnone).2.1, Bool.or_true, ← hc16]; exact sw.gives (N := [(0, _)]) (.cons rfl (.nil _))⟩)
                  | (exact fun w1 sw => ⟨vd, by rw [(Rr.nVal_ok hs).2.2, show r.drop (i + 1) = Rr.rRest (c :: t) 1 from by rw [hraw.2.1, ← htl]]; exact hi.2.2.1.trans hx12, by rw [(Rr.nVal_ok hs).1], by rw [(Rr.nVal_ok hs).2.1, Bool.or_false]; exact sw.gives (N := [(0, _)]) (.cons rfl (.nil _))⟩)
                  | (have hnone : Rr.numS r = none := by
                       rw [← hi.2.1]
                       first
                       | exact Rr.numG_brk (by omega)
                       | exact Rr.numG_big (by omega) (by omega)
                       | (rw [show i = 10 by omega]; exact Rr.numG_ten)
                     exact fun w1 sw => ⟨Ky.nil0, Rr.nUnd_no rv hnone, by rw [(Rr.nVal_no hnone).1], by rw [(Rr.nVal_no hnone).2.1, Bool.or_true]; exact sw.gives (N := [(0, _)]) (.cons rfl (.nil _))⟩)
                ·
                  refine st (ev_move rfl) rfl rfl rfl ?_
                  refine st (ev_gtr rfl rfl) rfl rfl rfl ?_
                  refine st (ev_pick_f rfl rfl) rfl rfl rfl ?_
                  refine op_nil ?_
                  refine ax_then ?_
                  refine At.regs (L' := [(0, _), (3, _), (4, _), (5, _), (6, _), (7, _), (8, _), (11, _), (12, _), (13, _), (14, _), (15, _), (16, _), (17, _), (18, _), (19, _), (20, _), (21, _), (22, _), (23, _), (24, _), (25, _), (26, _), (27, _), (28, _), (29, _), (30, _), (31, _), (32, _), (33, _), (34, _), (35, _), (36, _), (37, _), (38, _), (39, _), (40, _), (41, _), (42, _), (43, _), (44, _), (45, _), (46, _), (47, _), (48, _), (49, _), (50, _), (51, _), (52, _)]) (.cons rfl (.cons rfl (.cons rfl (.cons rfl (.cons rfl (.cons rfl (.cons rfl (.cons rfl (.cons rfl (.cons rfl (.cons rfl (.cons rfl (.cons rfl (.cons rfl (.cons rfl (.cons rfl (.cons rfl (.cons rfl (.cons rfl (.cons rfl (.cons rfl (.cons rfl (.cons rfl (.cons rfl (.cons rfl (.cons rfl (.cons rfl (.cons rfl (.cons rfl (.cons rfl (.cons rfl (.cons rfl (.cons rfl (.cons rfl (.cons rfl (.cons rfl (.cons rfl (.cons rfl (.cons rfl (.cons rfl (.cons rfl (.cons rfl (.cons rfl (.cons rfl (.cons rfl (.cons rfl (.cons rfl (.cons rfl (.cons rfl (.nil _)))))))))))))))))))))))))))))))))))))))))))))))))) ?_
                  refine cd_if rfl (fun hc52 => ?_) (fun hc52 => ?_)
                  ·
                    refine cd_exit ?_
                    refine ax_then_exit ?_
                    refine ax_block_miss (by decide) ?_
                    refine ax_then_exit ?_
                    refine ax_then_exit ?_
                    refine ax_block_hit ?_
                    refine ax_then ?_
                    refine At.regs (L' := [(0, _)]) (.cons rfl (.nil _)) ?_
                    refine cd_seq ?_
                    refine cd_region ?_
                    refine st (ev_move rfl) rfl rfl rfl ?_
                    refine st_call has84 rfl (fun w1 sw => qbad_any b _ _ w1 (sw.blk_eq (h := 0) rfl)) (mod_blk rfl) rfl rfl (fun _ _ => ?_)
                    refine op_nil ?_
                    refine ax_then ?_
                    refine At.regs (L' := []) (.nil _) ?_
                    refine cd_seq ?_
                    refine cd_region ?_
                    refine st (ev_assign rfl) rfl rfl rfl ?_
                    refine op_nil ?_
                    refine ax_then ?_
                    refine At.regs (L' := [(2, _)]) (.cons rfl (.nil _)) ?_
                    refine cd_ret ?_
                    refine rt_tmp (.inl rfl) Try.results53 rfl ?_
                    first
                    | (have hrc : rc = [] := by
                         cases hbb : bad with
                         | true => exact hi.2.2.2.1 hbb
                         | false => rw [hbb] at hc16; exact Rr.rBad_1 hc16
                       have hnone : Rr.numS r = none := by rw [← hi.2.1, hrc]; rfl
                       exact fun w1 sw => ⟨vd, by rw [(Rr.nVal_no hnone).2.2, ← show Rr.rRest rc 1 = [] from by rw [hrc]; decide]; exact hi.2.2.1.trans hx12, by rw [(Rr.nVal_no hnone).1], by rw [(Rr.nVal_no hnone).2.1, Bool.or_true, ← hc16]; exact sw.gives (N := [(0, _)]) (.cons rfl (.nil _))⟩)
                    | (exact fun w1 sw => ⟨vd, by rw [(Rr.nVal_ok hs).2.2, show r.drop (i + 1) = Rr.rRest (c :: t) 1 from by rw [hraw.2.1, ← htl]]; exact hi.2.2.1.trans hx12, by rw [(Rr.nVal_ok hs).1], by rw [(Rr.nVal_ok hs).2.1, Bool.or_false]; exact sw.gives (N := [(0, _)]) (.cons rfl (.nil _))⟩)
                    | (have hnone : Rr.numS r = none := by
                         rw [← hi.2.1]
                         first
                         | exact Rr.numG_brk (by omega)
                         | exact Rr.numG_big (by omega) (by omega)
                         | (rw [show i = 10 by omega]; exact Rr.numG_ten)
                       exact fun w1 sw => ⟨Ky.nil0, Rr.nUnd_no rv hnone, by rw [(Rr.nVal_no hnone).1], by rw [(Rr.nVal_no hnone).2.1, Bool.or_true]; exact sw.gives (N := [(0, _)]) (.cons rfl (.nil _))⟩)
                  ·
                    refine cd_skip ?_
                    refine ax_then ?_
                    refine At.regs (L' := [(0, _), (3, _), (4, _), (5, _), (6, _), (7, _), (8, _), (11, _), (12, _), (13, _), (14, _), (15, _), (16, _), (17, _), (18, _), (19, _), (20, _), (21, _), (22, _), (23, _), (24, _), (25, _), (26, _), (27, _), (28, _), (29, _), (30, _), (31, _), (32, _), (33, _), (34, _), (35, _), (36, _), (37, _), (38, _), (39, _), (40, _), (41, _), (42, _), (43, _), (44, _), (45, _), (46, _), (47, _), (48, _), (49, _), (50, _), (51, _), (52, _)]) (.cons rfl (.cons rfl (.cons rfl (.cons rfl (.cons rfl (.cons rfl (.cons rfl (.cons rfl (.cons rfl (.cons rfl (.cons rfl (.cons rfl (.cons rfl (.cons rfl (.cons rfl (.cons rfl (.cons rfl (.cons rfl (.cons rfl (.cons rfl (.cons rfl (.cons rfl (.cons rfl (.cons rfl (.cons rfl (.cons rfl (.cons rfl (.cons rfl (.cons rfl (.cons rfl (.cons rfl (.cons rfl (.cons rfl (.cons rfl (.cons rfl (.cons rfl (.cons rfl (.cons rfl (.cons rfl (.cons rfl (.cons rfl (.cons rfl (.cons rfl (.cons rfl (.cons rfl (.cons rfl (.cons rfl (.cons rfl (.cons rfl (.nil _)))))))))))))))))))))))))))))))))))))))))))))))))) ?_
                    refine cd_seq ?_
                    refine cd_region ?_
                    refine st (ev_move rfl) rfl rfl rfl ?_
                    have h9 : i ≠ 9 := by
                      intro h9
                      subst h9
                      have hc01 : c = 0 ∨ c = 1 := by omega
                      rcases hc01 with rfl | rfl
                      · omega
                      · have := Rr.acc_nine u
                        omega
                    have hs : Rr.numS r = some (Rr.acc u c i, i + 1) := by rw [← hi.2.1]; exact Rr.numG_ok (by omega) (by omega) (by omega)
                    have hrng := Rr.numS_spec hs
                    have hrg1 : Rr.acc u c i ≤ 4611686018427387904 := hrng.2.1
                    refine st (ev_conv64 Try.underlying135 Try.underlying3 rfl (by omega) (by omega)) rfl rfl rfl ?_
                    refine st (ev_assign rfl) rfl rfl rfl ?_
                    refine op_nil ?_
                    refine ax_then ?_
                    refine At.regs (L' := [(0, _), (2, _), (3, _), (4, _), (5, _), (6, _), (7, _), (8, _), (11, _), (12, _), (13, _), (14, _), (15, _), (16, _), (17, _), (18, _), (19, _), (20, _), (21, _), (22, _), (23, _), (24, _), (25, _), (26, _), (27, _), (28, _), (29, _), (30, _), (31, _), (32, _), (33, _), (34, _), (35, _), (36, _), (37, _), (38, _), (39, _), (40, _), (41, _), (42, _), (43, _), (44, _), (45, _), (46, _), (47, _), (48, _), (49, _), (50, _), (51, _), (52, _), (53, _), (54, _)]) (.cons rfl (.cons rfl (.cons rfl (.cons rfl (.cons rfl (.cons rfl (.cons rfl (.cons rfl (.cons rfl (.cons rfl (.cons rfl (.cons rfl (.cons rfl (.cons rfl (.cons rfl (.cons rfl (.cons rfl (.cons rfl (.cons rfl (.cons rfl (.cons rfl (.cons rfl (.cons rfl (.cons rfl (.cons rfl (.cons rfl (.cons rfl (.cons rfl (.cons rfl (.cons rfl (.cons rfl (.cons rfl (.cons rfl (.cons rfl (.cons rfl (.cons rfl (.cons rfl (.cons rfl (.cons rfl (.cons rfl (.cons rfl (.cons rfl (.cons rfl (.cons rfl (.cons rfl (.cons rfl (.cons rfl (.cons rfl (.cons rfl (.cons rfl (.cons rfl (.cons rfl (.nil _))))))))))))))))))))))))))))))))))))))))))))))))))))) ?_
                    refine cd_ret ?_
                    refine ax_block_ret ?_
                    refine ax_then_ret ?_
                    refine ax_then_ret ?_
                    refine ax_block_ret ?_
                    refine ax_then_ret ?_
                    refine rt_tmp (.inl rfl) Try.results53 rfl ?_
                    first
                    | (have hrc : rc = [] := by
                         cases hbb : bad with
                         | true => exact hi.2.2.2.1 hbb
                         | false => rw [hbb] at hc16; exact Rr.rBad_1 hc16
                       have hnone : Rr.numS r = none := by rw [← hi.2.1, hrc]; rfl
                       exact fun w1 sw => ⟨vd, by rw [(Rr.nVal_no hnone).2.2, ← show Rr.rRest rc 1 = [] from by rw [hrc]; decide]; exact hi.2.2.1.trans hx12, by rw [(Rr.nVal_no hnone).1], by rw [(Rr.nVal_no hnone).2.1, Bool.or_true, ← hc16]; exact sw.gives (N := [(0, _)]) (.cons rfl (.nil _))⟩)
                    | (exact fun w1 sw => ⟨vd, by rw [(Rr.nVal_ok hs).2.2, show r.drop (i + 1) = Rr.rRest (c :: t) 1 from by rw [hraw.2.1, ← htl]]; exact hi.2.2.1.trans hx12, by rw [(Rr.nVal_ok hs).1], by rw [(Rr.nVal_ok hs).2.1, Bool.or_false]; exact sw.gives (N := [(0, _)]) (.cons rfl (.nil _))⟩)
                    | (have hnone : Rr.numS r = none := by
                         rw [← hi.2.1]
                         first
                         | exact Rr.numG_brk (by omega)
                         | exact Rr.numG_big (by omega) (by omega)
                         | (rw [show i = 10 by omega]; exact Rr.numG_ten)
                       exact fun w1 sw => ⟨Ky.nil0, Rr.nUnd_no rv hnone, by rw [(Rr.nVal_no hnone).1], by rw [(Rr.nVal_no hnone).2.1, Bool.or_true]; exact sw.gives (N := [(0, _)]) (.cons rfl (.nil _))⟩)
              ·
                refine st_skip rfl rfl rfl ?_
                refine st_skip rfl rfl rfl ?_
                refine st (ev_pick_f rfl rfl) rfl rfl rfl ?_
                refine st (ev_move rfl) rfl rfl rfl ?_
                refine st (ev_move rfl) rfl rfl rfl ?_
                refine st (ev_gtr rfl rfl) rfl rfl rfl ?_
                refine st (ev_pick_f rfl rfl) rfl rfl rfl ?_
                refine op_nil ?_
                refine ax_then ?_
                refine At.regs (L' := [(0, _), (3, _), (4, _), (5, _), (6, _), (7, _), (8, _), (11, _), (12, _), (13, _), (14, _), (15, _), (16, _), (17, _), (18, _), (19, _), (20, _), (21, _), (22, _), (23, _), (24, _), (25, _), (26, _), (27, _), (28, _), (29, _), (30, _), (31, _), (32, _), (33, _), (34, _), (35, _), (36, _), (37, _), (38, _), (39, _), (40, _), (41, _), (42, _), (43, _), (44, _), (45, _), (46, _), (47, _), (48, _), (49, _), (50, _), (51, _), (52, _)]) (.cons rfl (.cons rfl (.cons rfl (.cons rfl (.cons rfl (.cons rfl (.cons rfl (.cons rfl (.cons rfl (.cons rfl (.cons rfl (.cons rfl (.cons rfl (.cons rfl (.cons rfl (.cons rfl (.cons rfl (.cons rfl (.cons rfl (.cons rfl (.cons rfl (.cons rfl (.cons rfl (.cons rfl (.cons rfl (.cons rfl (.cons rfl (.cons rfl (.cons rfl (.cons rfl (.cons rfl (.cons rfl (.cons rfl (.cons rfl (.cons rfl (.cons rfl (.cons rfl (.cons rfl (.cons rfl (.cons rfl (.cons rfl (.cons rfl (.cons rfl (.cons rfl (.cons rfl (.cons rfl (.cons rfl (.cons rfl (.cons rfl (.nil _)))))))))))))))))))))))))))))))))))))))))))))))))) ?_
                refine cd_if rfl (fun hc52 => ?_) (fun hc52 => ?_)
                ·
                  refine cd_exit ?_
                  refine ax_then_exit ?_
                  refine ax_block_miss (by decide) ?_
                  refine ax_then_exit ?_
                  refine ax_then_exit ?_
                  refine ax_block_hit ?_
                  refine ax_then ?_
                  refine At.regs (L' := [(0, _)]) (.cons rfl (.nil _)) ?_
                  refine cd_seq ?_
                  refine cd_region ?_
                  refine st (ev_move rfl) rfl rfl rfl ?_
                  refine st_call has84 rfl (fun w1 sw => qbad_any b _ _ w1 (sw.blk_eq (h := 0) rfl)) (mod_blk rfl) rfl rfl (fun _ _ => ?_)
                  refine op_nil ?_
                  refine ax_then ?_
                  refine At.regs (L' := []) (.nil _) ?_
                  refine cd_seq ?_
                  refine cd_region ?_
                  refine st (ev_assign rfl) rfl rfl rfl ?_
                  refine op_nil ?_
                  refine ax_then ?_
                  refine At.regs (L' := [(2, _)]) (.cons rfl (.nil _)) ?_
                  refine cd_ret ?_
                  refine rt_tmp (.inl rfl) Try.results53 rfl ?_
                  first
                  | (have hrc : rc = [] := by
                       cases hbb : bad with
                       | true => exact hi.2.2.2.1 hbb
                       | false => rw [hbb] at hc16; exact Rr.rBad_1 hc16
                     have hnone : Rr.numS r = none := by rw [← hi.2.1, hrc]; rfl
                     exact fun w1 sw => ⟨vd, by rw [(Rr.nVal_no hnone).2.2, ← show Rr.rRest rc 1 = [] from by rw [hrc]; decide]; exact hi.2.2.1.trans hx12, by rw [(Rr.nVal_no hnone).1], by rw [(Rr.nVal_no hnone).2.1, Bool.or_true, ← hc16]; exact sw.gives (N := [(0, _)]) (.cons rfl (.nil _))⟩)
                  | (exact fun w1 sw => ⟨vd, by rw [(Rr.nVal_ok hs).2.2, show r.drop (i + 1) = Rr.rRest (c :: t) 1 from by rw [hraw.2.1, ← htl]]; exact hi.2.2.1.trans hx12, by rw [(Rr.nVal_ok hs).1], by rw [(Rr.nVal_ok hs).2.1, Bool.or_false]; exact sw.gives (N := [(0, _)]) (.cons rfl (.nil _))⟩)
                  | (have hnone : Rr.numS r = none := by
                       rw [← hi.2.1]
                       first
                       | exact Rr.numG_brk (by omega)
                       | exact Rr.numG_big (by omega) (by omega)
                       | (rw [show i = 10 by omega]; exact Rr.numG_ten)
                     exact fun w1 sw => ⟨Ky.nil0, Rr.nUnd_no rv hnone, by rw [(Rr.nVal_no hnone).1], by rw [(Rr.nVal_no hnone).2.1, Bool.or_true]; exact sw.gives (N := [(0, _)]) (.cons rfl (.nil _))⟩)
                ·
                  refine cd_skip ?_
                  refine ax_then ?_
                  refine At.regs (L' := [(0, _), (3, _), (4, _), (5, _), (6, _), (7, _), (8, _), (11, _), (12, _), (13, _), (14, _), (15, _), (16, _), (17, _), (18, _), (19, _), (20, _), (21, _), (22, _), (23, _), (24, _), (25, _), (26, _), (27, _), (28, _), (29, _), (30, _), (31, _), (32, _), (33, _), (34, _), (35, _), (36, _), (37, _), (38, _), (39, _), (40, _), (41, _), (42, _), (43, _), (44, _), (45, _), (46, _), (47, _), (48, _), (49, _), (50, _), (51, _), (52, _)]) (.cons rfl (.cons rfl (.cons rfl (.cons rfl (.cons rfl (.cons rfl (.cons rfl (.cons rfl (.cons rfl (.cons rfl (.cons rfl (.cons rfl (.cons rfl (.cons rfl (.cons rfl (.cons rfl (.cons rfl (.cons rfl (.cons rfl (.cons rfl (.cons rfl (.cons rfl (.cons rfl (.cons rfl (.cons rfl (.cons rfl (.cons rfl (.cons rfl (.cons rfl (.cons rfl (.cons rfl (.cons rfl (.cons rfl (.cons rfl (.cons rfl (.cons rfl (.cons rfl (.cons rfl (.cons rfl (.cons rfl (.cons rfl (.cons rfl (.cons rfl (.cons rfl (.cons rfl (.cons rfl (.cons rfl (.cons rfl (.cons rfl (.nil _)))))))))))))))))))))))))))))))))))))))))))))))))) ?_
                  refine cd_seq ?_
                  refine cd_region ?_
                  refine st (ev_move rfl) rfl rfl rfl ?_
                  have h9 : i ≠ 9 := by
                    intro h9
                    subst h9
                    have hc01 : c = 0 ∨ c = 1 := by omega
                    rcases hc01 with rfl | rfl
                    · omega
                    · have := Rr.acc_nine u
                      omega
                  have hs : Rr.numS r = some (Rr.acc u c i, i + 1) := by rw [← hi.2.1]; exact Rr.numG_ok (by omega) (by omega) (by omega)
                  have hrng := Rr.numS_spec hs
                  have hrg1 : Rr.acc u c i ≤ 4611686018427387904 := hrng.2.1
                  refine st (ev_conv64 Try.underlying135 Try.underlying3 rfl (by omega) (by omega)) rfl rfl rfl ?_
                  refine st (ev_assign rfl) rfl rfl rfl ?_
                  refine op_nil ?_
                  refine ax_then ?_
                  refine At.regs (L' := [(0, _), (2, _), (3, _), (4, _), (5, _), (6, _), (7, _), (8, _), (11, _), (12, _), (13, _), (14, _), (15, _), (16, _), (17, _), (18, _), (19, _), (20, _), (21, _), (22, _), (23, _), (24, _), (25, _), (26, _), (27, _), (28, _), (29, _), (30, _), (31, _), (32, _), (33, _), (34, _), (35, _), (36, _), (37, _), (38, _), (39, _), (40, _), (41, _), (42, _), (43, _), (44, _), (45, _), (46, _), (47, _), (48, _), (49, _), (50, _), (51, _), (52, _), (53, _), (54, _)]) (.cons rfl (.cons rfl (.cons rfl (.cons rfl (.cons rfl (.cons rfl (.cons rfl (.cons rfl (.cons rfl (.cons rfl (.cons rfl (.cons rfl (.cons rfl (.cons rfl (.cons rfl (.cons rfl (.cons rfl (.cons rfl (.cons rfl (.cons rfl (.cons rfl (.cons rfl (.cons rfl (.cons rfl (.cons rfl (.cons rfl (.cons rfl (.cons rfl (.cons rfl (.cons rfl (.cons rfl (.cons rfl (.cons rfl (.cons rfl (.cons rfl (.cons rfl (.cons rfl (.cons rfl (.cons rfl (.cons rfl (.cons rfl (.cons rfl (.cons rfl (.cons rfl (.cons rfl (.cons rfl (.cons rfl (.cons rfl (.cons rfl (.cons rfl (.cons rfl (.cons rfl (.nil _))))))))))))))))))))))))))))))))))))))))))))))))))))) ?_
                  refine cd_ret ?_
                  refine ax_block_ret ?_
                  refine ax_then_ret ?_
                  refine ax_then_ret ?_
                  refine ax_block_ret ?_
                  refine ax_then_ret ?_
                  refine rt_tmp (.inl rfl) Try.results53 rfl ?_
                  first
                  | (have hrc : rc = [] := by
                       cases hbb : bad with
                       | true => exact hi.2.2.2.1 hbb
                       | false => rw [hbb] at hc16; exact Rr.rBad_1 hc16
                     have hnone : Rr.numS r = none := by rw [← hi.2.1, hrc]; rfl
                     exact fun w1 sw => ⟨vd, by rw [(Rr.nVal_no hnone).2.2, ← show Rr.rRest rc 1 = [] from by rw [hrc]; decide]; exact hi.2.2.1.trans hx12, by rw [(Rr.nVal_no hnone).1], by rw [(Rr.nVal_no hnone).2.1, Bool.or_true, ← hc16]; exact sw.gives (N := [(0, _)]) (.cons rfl (.nil _))⟩)
                  | (exact fun w1 sw => ⟨vd, by rw [(Rr.nVal_ok hs).2.2, show r.drop (i + 1) = Rr.rRest (c :: t) 1 from by rw [hraw.2.1, ← htl]]; exact hi.2.2.1.trans hx12, by rw [(Rr.nVal_ok hs).1], by rw [(Rr.nVal_ok hs).2.1, Bool.or_false]; exact sw.gives (N := [(0, _)]) (.cons rfl (.nil _))⟩)
                  | (have hnone : Rr.numS r = none := by
                       rw [← hi.2.1]
                       first
                       | exact Rr.numG_brk (by omega)
                       | exact Rr.numG_big (by omega) (by omega)
                       | (rw [show i = 10 by omega]; exact Rr.numG_ten)
                     exact fun w1 sw => ⟨Ky.nil0, Rr.nUnd_no rv hnone, by rw [(Rr.nVal_no hnone).1], by rw [(Rr.nVal_no hnone).2.1, Bool.or_true]; exact sw.gives (N := [(0, _)]) (.cons rfl (.nil _))⟩)
      ·
        refine st_skip rfl rfl rfl ?_
        refine st_skip rfl rfl rfl ?_
        refine st (ev_pick_f rfl rfl) rfl rfl rfl ?_
        refine op_nil ?_
        refine ax_then ?_
        refine At.regs (L' := [(0, _), (3, _), (4, _), (5, _), (6, _), (7, _), (8, _), (11, _), (12, _), (13, _), (14, _), (15, _), (16, _), (17, _), (18, _), (19, _), (20, _), (21, _), (22, _), (23, _), (24, _), (25, _)]) (.cons rfl (.cons rfl (.cons rfl (.cons rfl (.cons rfl (.cons rfl (.cons rfl (.cons rfl (.cons rfl (.cons rfl (.cons rfl (.cons rfl (.cons rfl (.cons rfl (.cons rfl (.cons rfl (.cons rfl (.cons rfl (.cons rfl (.cons rfl (.cons rfl (.cons rfl (.nil _))))))))))))))))))))))) ?_
        refine cd_false rfl ?_
        refine cd_skip ?_
        refine ax_then ?_
        refine At.regs (L' := [(0, _), (3, _), (4, _), (5, _), (6, _), (7, _), (8, _), (11, _), (12, _), (13, _), (14, _), (15, _), (16, _), (17, _), (18, _), (19, _), (20, _), (21, _), (22, _), (23, _), (24, _), (25, _)]) (.cons rfl (.cons rfl (.cons rfl (.cons rfl (.cons rfl (.cons rfl (.cons rfl (.cons rfl (.cons rfl (.cons rfl (.cons rfl (.cons rfl (.cons rfl (.cons rfl (.cons rfl (.cons rfl (.cons rfl (.cons rfl (.cons rfl (.cons rfl (.cons rfl (.cons rfl (.nil _))))))))))))))))))))))) ?_
        refine cd_seq ?_
        refine cd_seq ?_
        refine cd_region ?_
        refine st (ev_move rfl) rfl rfl rfl ?_
        refine st (ev_eql rfl rfl) rfl rfl rfl ?_
        refine st (ev_move rfl) rfl rfl rfl ?_
        refine at_eq (i := 28) (v' := .bool false) rfl (by simp only [Value.bool.injEq, decide_eq_true_eq, decide_eq_false_iff_not]; exact hg22) ?_
        refine st_skip rfl rfl rfl ?_
        refine st_skip rfl rfl rfl ?_
        refine st (ev_pick_f rfl rfl) rfl rfl rfl ?_
        refine op_nil ?_
        refine ax_then ?_
        refine At.regs (L' := [(0, _), (3, _), (4, _), (5, _), (6, _), (7, _), (8, _), (11, _), (12, _), (13, _), (14, _), (15, _), (16, _), (17, _), (18, _), (19, _), (20, _), (21, _), (22, _), (23, _), (24, _), (25, _), (26, _), (27, _), (28, _), (29, _), (30, _), (31, _)]) (.cons rfl (.cons rfl (.cons rfl (.cons rfl (.cons rfl (.cons rfl (.cons rfl (.cons rfl (.cons rfl (.cons rfl (.cons rfl (.cons rfl (.cons rfl (.cons rfl (.cons rfl (.cons rfl (.cons rfl (.cons rfl (.cons rfl (.cons rfl (.cons rfl (.cons rfl (.cons rfl (.cons rfl (.cons rfl (.cons rfl (.cons rfl (.cons rfl (.nil _))))))))))))))))))))))))))))) ?_
        refine cd_false rfl ?_
        refine cd_skip ?_
        refine ax_then ?_
        refine At.regs (L' := [(0, _), (3, _), (4, _), (5, _), (6, _), (7, _), (8, _), (11, _), (12, _), (13, _), (14, _), (15, _), (16, _), (17, _), (18, _), (19, _), (20, _), (21, _), (22, _), (23, _), (24, _), (25, _), (26, _), (27, _), (28, _), (29, _), (30, _), (31, _)]) (.cons rfl (.cons rfl (.cons rfl (.cons rfl (.cons rfl (.cons rfl (.cons rfl (.cons rfl (.cons rfl (.cons rfl (.cons rfl (.cons rfl (.cons rfl (.cons rfl (.cons rfl (.cons rfl (.cons rfl (.cons rfl (.cons rfl (.cons rfl (.cons rfl (.cons rfl (.cons rfl (.cons rfl (.cons rfl (.cons rfl (.cons rfl (.cons rfl (.nil _))))))))))))))))))))))))))))) ?_
        refine cd_seq ?_
        refine cd_region ?_
        refine st (ev_move rfl) rfl rfl rfl ?_
        refine st (ev_move rfl) rfl rfl rfl ?_
        refine st (ev_and rfl rfl) rfl rfl rfl ?_
        refine st (ev_conv Try.underlying5 Try.underlying135 rfl) rfl rfl rfl ?_
        refine st (ev_move rfl) rfl rfl rfl ?_
        refine st (ev_mul64 rfl rfl (by omega) (by omega)) rfl rfl rfl ?_
        refine st (ev_convu64 Try.underlying3 Try.underlying136 rfl (by omega) (by omega)) rfl rfl rfl ?_
        refine st (ev_shl rfl rfl (by omega)) rfl rfl rfl ?_
        refine st (ev_or rfl rfl) rfl rfl rfl ?_
        refine at_eq (i := 40) (v' := .int .u64 (Rr.acc u c i)) rfl rfl ?_
        have hap := Rr.acc_pos u c i
        refine st (ev_assign rfl) rfl rfl rfl ?_
        refine op_nil ?_
        refine ax_then ?_
        refine At.regs (L' := [(0, _), (3, _), (4, _), (5, _), (6, _), (7, _), (8, _), (11, _), (12, _), (13, _), (14, _), (15, _), (16, _), (17, _), (18, _), (19, _), (20, _), (21, _), (22, _), (23, _), (24, _), (25, _), (26, _), (27, _), (28, _), (29, _), (30, _), (31, _), (32, _), (33, _), (34, _), (35, _), (36, _), (37, _), (38, _), (39, _), (40, _)]) (.cons rfl (.cons rfl (.cons rfl (.cons rfl (.cons rfl (.cons rfl (.cons rfl (.cons rfl (.cons rfl (.cons rfl (.cons rfl (.cons rfl (.cons rfl (.cons rfl (.cons rfl (.cons rfl (.cons rfl (.cons rfl (.cons rfl (.cons rfl (.cons rfl (.cons rfl (.cons rfl (.cons rfl (.cons rfl (.cons rfl (.cons rfl (.cons rfl (.cons rfl (.cons rfl (.cons rfl (.cons rfl (.cons rfl (.cons rfl (.cons rfl (.cons rfl (.cons rfl (.nil _)))))))))))))))))))))))))))))))))))))) ?_
        refine cd_seq ?_
        refine cd_seq ?_
        refine cd_region ?_
        refine st (ev_move rfl) rfl rfl rfl ?_
        refine st (ev_gtr rfl rfl) rfl rfl rfl ?_
        refine op_nil ?_
        refine ax_then ?_
        refine At.regs (L' := [(0, _), (3, _), (4, _), (5, _), (6, _), (7, _), (8, _), (11, _), (12, _), (13, _), (14, _), (15, _), (16, _), (17, _), (18, _), (19, _), (20, _), (21, _), (22, _), (23, _), (24, _), (25, _), (26, _), (27, _), (28, _), (29, _), (30, _), (31, _), (32, _), (33, _), (34, _), (35, _), (36, _), (37, _), (38, _), (39, _), (40, _), (41, _), (42, _)]) (.cons rfl (.cons rfl (.cons rfl (.cons rfl (.cons rfl (.cons rfl (.cons rfl (.cons rfl (.cons rfl (.cons rfl (.cons rfl (.cons rfl (.cons rfl (.cons rfl (.cons rfl (.cons rfl (.cons rfl (.cons rfl (.cons rfl (.cons rfl (.cons rfl (.cons rfl (.cons rfl (.cons rfl (.cons rfl (.cons rfl (.cons rfl (.cons rfl (.cons rfl (.cons rfl (.cons rfl (.cons rfl (.cons rfl (.cons rfl (.cons rfl (.cons rfl (.cons rfl (.cons rfl (.cons rfl (.nil _)))))))))))))))))))))))))))))))))))))))) ?_
        refine cd_if rfl (fun hc42 => ?_) (fun hc42 => ?_)
        ·
          refine cd_exit ?_
          refine ax_then_exit ?_
          refine ax_block_hit ?_
          refine ax_then ?_
          refine At.regs (L' := [(0, _), (3, _), (4, _), (5, _), (6, _), (7, _), (8, _), (11, _), (12, _), (13, _), (14, _), (15, _), (16, _), (17, _), (18, _), (19, _), (20, _), (21, _), (22, _), (23, _), (24, _), (25, _), (26, _), (27, _), (28, _), (29, _), (30, _), (31, _), (32, _), (33, _), (34, _), (35, _), (36, _), (37, _), (38, _), (39, _), (40, _), (41, _), (42, _)]) (.cons rfl (.cons rfl (.cons rfl (.cons rfl (.cons rfl (.cons rfl (.cons rfl (.cons rfl (.cons rfl (.cons rfl (.cons rfl (.cons rfl (.cons rfl (.cons rfl (.cons rfl (.cons rfl (.cons rfl (.cons rfl (.cons rfl (.cons rfl (.cons rfl (.cons rfl (.cons rfl (.cons rfl (.cons rfl (.cons rfl (.cons rfl (.cons rfl (.cons rfl (.cons rfl (.cons rfl (.cons rfl (.cons rfl (.cons rfl (.cons rfl (.cons rfl (.cons rfl (.cons rfl (.cons rfl (.nil _)))))))))))))))))))))))))))))))))))))))) ?_
          refine cd_region ?_
          refine st (ev_move rfl) rfl rfl rfl ?_
          refine st (ev_add64 rfl rfl (by omega) (by omega)) rfl rfl rfl ?_
          refine st (ev_assign rfl) rfl rfl rfl ?_
          refine op_nil ?_
          exact at_again ((i + 1, Rr.acc u c i, vd, Rr.rRest (c :: t) 1)) (⟨by show i + 1 ≤ 10; omega, by show Rr.numG (i + 1) (Rr.acc u c i) (Rr.rRest (c :: t) 1) = Rr.numS r; rw [hraw.2.1, ← Rr.numG_go (by omega) (by omega)]; exact hi.2.1, hi.2.2.1.trans hx12, fun hb2 => (hi.2.2.2.1 hb2 |> fun hh => by cases hh), by show Rr.rRest (c :: t) 1 = r.drop (i + 1); rw [hraw.2.1]; exact htl⟩) (by omega) (.cons rfl (.cons rfl (.cons rfl (.nil _)))) (.cons rfl (.nil _)) (.cons rfl (.nil _))
        ·
          refine cd_skip ?_
          refine ax_then ?_
          refine At.regs (L' := [(0, _), (3, _), (4, _), (5, _), (6, _), (7, _), (8, _), (11, _), (12, _), (13, _), (14, _), (15, _), (16, _), (17, _), (18, _), (19, _), (20, _), (21, _), (22, _), (23, _), (24, _), (25, _), (26, _), (27, _), (28, _), (29, _), (30, _), (31, _), (32, _), (33, _), (34, _), (35, _), (36, _), (37, _), (38, _), (39, _), (40, _), (41, _), (42, _)]) (.cons rfl (.cons rfl (.cons rfl (.cons rfl (.cons rfl (.cons rfl (.cons rfl (.cons rfl (.cons rfl (.cons rfl (.cons rfl (.cons rfl (.cons rfl (.cons rfl (.cons rfl (.cons rfl (.cons rfl (.cons rfl (.cons rfl (.cons rfl (.cons rfl (.cons rfl (.cons rfl (.cons rfl (.cons rfl (.cons rfl (.cons rfl (.cons rfl (.cons rfl (.cons rfl (.cons rfl (.cons rfl (.cons rfl (.cons rfl (.cons rfl (.cons rfl (.cons rfl (.cons rfl (.cons rfl (.nil _)))))))))))))))))))))))))))))))))))))))) ?_
          refine cd_seq ?_
          refine cd_seq ?_
          refine cd_region ?_
          refine st (ev_move rfl) rfl rfl rfl ?_
          refine st (ev_gtr rfl rfl) rfl rfl rfl ?_
          refine st (ev_move rfl) rfl rfl rfl ?_
          refine at_split_if (i := 45) rfl (fun hg45 => ?_) (fun hg45 => ?_)
          ·
            refine st (ev_move rfl) rfl rfl rfl ?_
            refine st (ev_eql rfl rfl) rfl rfl rfl ?_
            refine st (ev_pick_t rfl rfl) rfl rfl rfl ?_
            refine st (ev_move rfl) rfl rfl rfl ?_
            refine at_split_if (i := 49) rfl (fun hg49 => ?_) (fun hg49 => ?_)
            ·
              refine st_skip rfl rfl rfl ?_
              refine st_skip rfl rfl rfl ?_
              refine st (ev_pick_t rfl rfl) rfl rfl rfl ?_
              refine op_nil ?_
              refine ax_then ?_
              refine At.regs (L' := [(0, _), (3, _), (4, _), (5, _), (6, _), (7, _), (8, _), (11, _), (12, _), (13, _), (14, _), (15, _), (16, _), (17, _), (18, _), (19, _), (20, _), (21, _), (22, _), (23, _), (24, _), (25, _), (26, _), (27, _), (28, _), (29, _), (30, _), (31, _), (32, _), (33, _), (34, _), (35, _), (36, _), (37, _), (38, _), (39, _), (40, _), (41, _), (42, _), (43, _), (44, _), (45, _), (46, _), (47, _), (48, _), (49, _), (50, _), (51, _), (52, _)]) (.cons rfl (.cons rfl (.cons rfl (.cons rfl (.cons rfl (.cons rfl (.cons rfl (.cons rfl (.cons rfl (.cons rfl (.cons rfl (.cons rfl (.cons rfl (.cons rfl (.cons rfl (.cons rfl (.cons rfl (.cons rfl (.cons rfl (.cons rfl (.cons rfl (.cons rfl (.cons rfl (.cons rfl (.cons rfl (.cons rfl (.cons rfl (.cons rfl (.cons rfl (.cons rfl (.cons rfl (.cons rfl (.cons rfl (.cons rfl (.cons rfl (.cons rfl (.cons rfl (.cons rfl (.cons rfl (.cons rfl (.cons rfl (.cons rfl (.cons rfl (.cons rfl (.cons rfl (.cons rfl (.cons rfl (.cons rfl (.cons rfl (.nil _)))))))))))))))))))))))))))))))))))))))))))))))))) ?_
              refine cd_true rfl ?_
              refine cd_exit ?_
              refine ax_then_exit ?_
              refine ax_block_miss (by decide) ?_
              refine ax_then_exit ?_
              refine ax_then_exit ?_
              refine ax_block_hit ?_
              refine ax_then ?_
              refine At.regs (L' := [(0, _)]) (.cons rfl (.nil _)) ?_
              refine cd_seq ?_
              refine cd_region ?_
              refine st (ev_move rfl) rfl rfl rfl ?_
              refine st_call has84 rfl (fun w1 sw => qbad_any b _ _ w1 (sw.blk_eq (h := 0) rfl)) (mod_blk rfl) rfl rfl (fun _ _ => ?_)
              refine op_nil ?_
              refine ax_then ?_
              refine At.regs (L' := []) (.nil _) ?_
              refine cd_seq ?_
              refine cd_region ?_
              refine st (ev_assign rfl) rfl rfl rfl ?_
              refine op_nil ?_
              refine ax_then ?_
              refine At.regs (L' := [(2, _)]) (.cons rfl (.nil _)) ?_
              refine cd_ret ?_
              refine rt_tmp (.inl rfl) Try.results53 rfl ?_
              first
              | (have hrc : rc = [] := by
                   cases hbb : bad with
                   | true => exact hi.2.2.2.1 hbb
                   | false => rw [hbb] at hc16; exact Rr.rBad_1 hc16
                 have hnone : Rr.numS r = none := by rw [← hi.2.1, hrc]; rfl
                 exact fun w1 sw => ⟨vd, by rw [(Rr.nVal_no hnone).2.2, ← show Rr.rRest rc 1 = [] from by rw [hrc]; decide]; exact hi.2.2.1.trans hx12, by rw [(Rr.nVal_no hnone).1], by rw [(Rr.nVal_no hnone).2.1, Bool.or_true, ← hc16]; exact sw.gives (N := [(0, _)]) (.cons rfl (.nil _))⟩)
              | (exact fun w1 sw => ⟨vd, by rw [(Rr.nVal_ok hs).2.2, show r.drop (i + 1) = Rr.rRest (c :: t) 1 from by rw [hraw.2.1, ← htl]]; exact hi.2.2.1.trans hx12, by rw [(Rr.nVal_ok hs).1], by rw [(Rr.nVal_ok hs).2.1, Bool.or_false]; exact sw.gives (N := [(0, _)]) (.cons rfl (.nil _))⟩)
              | (have hnone : Rr.numS r = none := by
                   rw [← hi.2.1]
                   first
                   | exact Rr.numG_brk (by omega)
                   | exact Rr.numG_big (by omega) (by omega)
                   | (rw [show i = 10 by omega]; exact Rr.numG_ten)
                 exact fun w1 sw => ⟨Ky.nil0, Rr.nUnd_no rv hnone, by rw [(Rr.nVal_no hnone).1], by rw [(Rr.nVal_no hnone).2.1, Bool.or_true]; exact sw.gives (N := [(0, _)]) (.cons rfl (.nil _))⟩)
            ·
              refine st (ev_move rfl) rfl rfl rfl ?_
              refine st (ev_gtr rfl rfl) rfl rfl rfl ?_
              refine st (ev_pick_f rfl rfl) rfl rfl rfl ?_
              refine op_nil ?_
              refine ax_then ?_
              refine At.regs (L' := [(0, _), (3, _), (4, _), (5, _), (6, _), (7, _), (8, _), (11, _), (12, _), (13, _), (14, _), (15, _), (16, _), (17, _), (18, _), (19, _), (20, _), (21, _), (22, _), (23, _), (24, _), (25, _), (26, _), (27, _), (28, _), (29, _), (30, _), (31, _), (32, _), (33, _), (34, _), (35, _), (36, _), (37, _), (38, _), (39, _), (40, _), (41, _), (42, _), (43, _), (44, _), (45, _), (46, _), (47, _), (48, _), (49, _), (50, _), (51, _), (52, _)]) (.cons rfl (.cons rfl (.cons rfl (.cons rfl (.cons rfl (.cons rfl (.cons rfl (.cons rfl (.cons rfl (.cons rfl (.cons rfl (.cons rfl (.cons rfl (.cons rfl (.cons rfl (.cons rfl (.cons rfl (.cons rfl (.cons rfl (.cons rfl (.cons rfl (.cons rfl (.cons rfl (.cons rfl (.cons rfl (.cons rfl (.cons rfl (.cons rfl (.cons rfl (.cons rfl (.cons rfl (.cons rfl (.cons rfl (.cons rfl (.cons rfl (.cons rfl (.cons rfl (.cons rfl (.cons rfl (.cons rfl (.cons rfl (.cons rfl (.cons rfl (.cons rfl (.cons rfl (.cons rfl (.cons rfl (.cons rfl (.cons rfl (.nil _)))))))))))))))))))))))))))))))))))))))))))))))))) ?_
              refine cd_if rfl (fun hc52 => ?_) (fun hc52 => ?_)
              ·
                refine cd_exit ?_
                refine ax_then_exit ?_
                refine ax_block_miss (by decide) ?_
                refine ax_then_exit ?_
                refine ax_then_exit ?_
                refine ax_block_hit ?_
                refine ax_then ?_
                refine At.regs (L' := [(0, _)]) (.cons rfl (.nil _)) ?_
                refine cd_seq ?_
                refine cd_region ?_
                refine st (ev_move rfl) rfl rfl rfl ?_
                refine st_call has84 rfl (fun w1 sw => qbad_any b _ _ w1 (sw.blk_eq (h := 0) rfl)) (mod_blk rfl) rfl rfl (fun _ _ => ?_)
                refine op_nil ?_
                refine ax_then ?_
                refine At.regs (L' := []) (.nil _) ?_
                refine cd_seq ?_
                refine cd_region ?_
                refine st (ev_assign rfl) rfl rfl rfl ?_
                refine op_nil ?_
                refine ax_then ?_
                refine At.regs (L' := [(2, _)]) (.cons rfl (.nil _)) ?_
                refine cd_ret ?_
                refine rt_tmp (.inl rfl) Try.results53 rfl ?_
                first
                | (have hrc : rc = [] := by
                     cases hbb : bad with
                     | true => exact hi.2.2.2.1 hbb
                     | false => rw [hbb] at hc16; exact Rr.rBad_1 hc16
                   have hnone : Rr.numS r = none := by rw [← hi.2.1, hrc]; rfl
                   exact fun w1 sw => ⟨vd, by rw [(Rr.nVal_no hnone).2.2, ← show Rr.rRest rc 1 = [] from by rw [hrc]; decide]; exact hi.2.2.1.trans hx12, by rw [(Rr.nVal_no hnone).1], by rw [(Rr.nVal_no hnone).2.1, Bool.or_true, ← hc16]; exact sw.gives (N := [(0, _)]) (.cons rfl (.nil _))⟩)
                | (exact fun w1 sw => ⟨vd, by rw [(Rr.nVal_ok hs).2.2, show r.drop (i + 1) = Rr.rRest (c :: t) 1 from by rw [hraw.2.1, ← htl]]; exact hi.2.2.1.trans hx12, by rw [(Rr.nVal_ok hs).1], by rw [(Rr.nVal_ok hs).2.1, Bool.or_false]; exact sw.gives (N := [(0, _)]) (.cons rfl (.nil _))⟩)
                | (have hnone : Rr.numS r = none := by
                     rw [← hi.2.1]
                     first
                     | exact Rr.numG_brk (by omega)
                     | exact Rr.numG_big (by omega) (by omega)
                     | (rw [show i = 10 by omega]; exact Rr.numG_ten)
                   exact fun w1 sw => ⟨Ky.nil0, Rr.nUnd_no rv hnone, by rw [(Rr.nVal_no hnone).1], by rw [(Rr.nVal_no hnone).2.1, Bool.or_true]; exact sw.gives (N := [(0, _)]) (.cons rfl (.nil _))⟩)
              ·
                refine cd_skip ?_
                refine ax_then ?_
                refine At.regs (L' := [(0, _), (3, _), (4, _), (5, _), (6, _), (7, _), (8, _), (11, _), (12, _), (13, _), (14, _), (15, _), (16, _), (17, _), (18, _), (19, _), (20, _), (21, _), (22, _), (23, _), (24, _), (25, _), (26, _), (27, _), (28, _), (29, _), (30, _), (31, _), (32, _), (33, _), (34, _), (35, _), (36, _), (37, _), (38, _), (39, _), (40, _), (41, _), (42, _), (43, _), (44, _), (45, _), (46, _), (47, _), (48, _), (49, _), (50, _), (51, _), (52, _)]) (.cons rfl (.cons rfl (.cons rfl (.cons rfl (.cons rfl (.cons rfl (.cons rfl (.cons rfl (.cons rfl (.cons rfl (.cons rfl (.cons rfl (.cons rfl (.cons rfl (.cons rfl (.cons rfl (.cons rfl (.cons rfl (.cons rfl (.cons rfl (.cons rfl (.cons rfl (.cons rfl (.cons rfl (.cons rfl (.cons rfl (.cons rfl (.cons rfl (.cons rfl (.cons rfl (.cons rfl (.cons rfl (.cons rfl (.cons rfl (.cons rfl (.cons rfl (.cons rfl (.cons rfl (.cons rfl (.cons rfl (.cons rfl (.cons rfl (.cons rfl (.cons rfl (.cons rfl (.cons rfl (.cons rfl (.cons rfl (.cons rfl (.nil _)))))))))))))))))))))))))))))))))))))))))))))))))) ?_
                refine cd_seq ?_
                refine cd_region ?_
                refine st (ev_move rfl) rfl rfl rfl ?_
                have h9 : i ≠ 9 := by
                  intro h9
                  subst h9
                  have hc01 : c = 0 ∨ c = 1 := by omega
                  rcases hc01 with rfl | rfl
                  · omega
                  · have := Rr.acc_nine u
                    omega
                have hs : Rr.numS r = some (Rr.acc u c i, i + 1) := by rw [← hi.2.1]; exact Rr.numG_ok (by omega) (by omega) (by omega)
                have hrng := Rr.numS_spec hs
                have hrg1 : Rr.acc u c i ≤ 4611686018427387904 := hrng.2.1
                refine st (ev_conv64 Try.underlying135 Try.underlying3 rfl (by omega) (by omega)) rfl rfl rfl ?_
                refine st (ev_assign rfl) rfl rfl rfl ?_
                refine op_nil ?_
                refine ax_then ?_
                refine At.regs (L' := [(0, _), (2, _), (3, _), (4, _), (5, _), (6, _), (7, _), (8, _), (11, _), (12, _), (13, _), (14, _), (15, _), (16, _), (17, _), (18, _), (19, _), (20, _), (21, _), (22, _), (23, _), (24, _), (25, _), (26, _), (27, _), (28, _), (29, _), (30, _), (31, _), (32, _), (33, _), (34, _), (35, _), (36, _), (37, _), (38, _), (39, _), (40, _), (41, _), (42, _), (43, _), (44, _), (45, _), (46, _), (47, _), (48, _), (49, _), (50, _), (51, _), (52, _), (53, _), (54, _)]) (.cons rfl (.cons rfl (.cons rfl (.cons rfl (.cons rfl (.cons rfl (.cons rfl (.cons rfl (.cons rfl (.cons rfl (.cons rfl (.cons rfl (.cons rfl (.cons rfl (.cons rfl (.cons rfl (.cons rfl (.cons rfl (.cons rfl (.cons rfl (.cons rfl (.cons rfl (.cons rfl (.cons rfl (.cons rfl (.cons rfl (.cons rfl (.cons rfl (.cons rfl (.cons rfl (.cons rfl (.cons rfl (.cons rfl (.cons rfl (.cons rfl (.cons rfl (.cons rfl (.cons rfl (.cons rfl (.cons rfl (.cons rfl (.cons rfl (.cons rfl (.cons rfl (.cons rfl (.cons rfl (.cons rfl (.cons rfl (.cons rfl (.cons rfl (.cons rfl (.cons rfl (.nil _))))))))))))))))))))))))))))))))))))))))))))))))))))) ?_
                refine cd_ret ?_
                refine ax_block_ret ?_
                refine ax_then_ret ?_
                refine ax_then_ret ?_
                refine ax_block_ret ?_
                refine ax_then_ret ?_
                refine rt_tmp (.inl rfl) Try.results53 rfl ?_
                first
                | (have hrc : rc = [] := by
                     cases hbb : bad with
                     | true => exact hi.2.2.2.1 hbb
                     | false => rw [hbb] at hc16; exact Rr.rBad_1 hc16
                   have hnone : Rr.numS r = none := by rw [← hi.2.1, hrc]; rfl
                   exact fun w1 sw => ⟨vd, by rw [(Rr.nVal_no hnone).2.2, ← show Rr.rRest rc 1 = [] from by rw [hrc]; decide]; exact hi.2.2.1.trans hx12, by rw [(Rr.nVal_no hnone).1], by rw [(Rr.nVal_no hnone).2.1, Bool.or_true, ← hc16]; exact sw.gives (N := [(0, _)]) (.cons rfl (.nil _))⟩)
                | (exact fun w1 sw => ⟨vd, by rw [(Rr.nVal_ok hs).2.2, show r.drop (i + 1) = Rr.rRest (c :: t) 1 from by rw [hraw.2.1, ← htl]]; exact hi.2.2.1.trans hx12, by rw [(Rr.nVal_ok hs).1], by rw [(Rr.nVal_ok hs).2.1, Bool.or_false]; exact sw.gives (N := [(0, _)]) (.cons rfl (.nil _))⟩)
                | (have hnone : Rr.numS r = none := by
                     rw [← hi.2.1]
                     first
                     | exact Rr.numG_brk (by omega)
                     | exact Rr.numG_big (by omega) (by omega)
                     | (rw [show i = 10 by omega]; exact Rr.numG_ten)
                   exact fun w1 sw => ⟨Ky.nil0, Rr.nUnd_no rv hnone, by rw [(Rr.nVal_no hnone).1], by rw [(Rr.nVal_no hnone).2.1, Bool.or_true]; exact sw.gives (N := [(0, _)]) (.cons rfl (.nil _))⟩)
          ·
            refine st_skip rfl rfl rfl ?_
            refine st_skip rfl rfl rfl ?_
            refine st (ev_pick_f rfl rfl) rfl rfl rfl ?_
            refine st (ev_move rfl) rfl rfl rfl ?_
            refine st (ev_move rfl) rfl rfl rfl ?_
            refine st (ev_gtr rfl rfl) rfl rfl rfl ?_
            refine st (ev_pick_f rfl rfl) rfl rfl rfl ?_
            refine op_nil ?_
            refine ax_then ?_
            refine At.regs (L' := [(0, _), (3, _), (4, _), (5, _), (6, _), (7, _), (8, _), (11, _), (12, _), (13, _), (14, _), (15, _), (16, _), (17, _), (18, _), (19, _), (20, _), (21, _), (22, _), (23, _), (24, _), (25, _), (26, _), (27, _), (28, _), (29, _), (30, _), (31, _), (32, _), (33, _), (34, _), (35, _), (36, _), (37, _), (38, _), (39, _), (40, _), (41, _), (42, _), (43, _), (44, _), (45, _), (46, _), (47, _), (48, _), (49, _), (50, _), (51, _), (52, _)]) (.cons rfl (.cons rfl (.cons rfl (.cons rfl (.cons rfl (.cons rfl (.cons rfl (.cons rfl (.cons rfl (.cons rfl (.cons rfl (.cons rfl (.cons rfl (.cons rfl (.cons rfl (.cons rfl (.cons rfl (.cons rfl (.cons rfl (.cons rfl (.cons rfl (.cons rfl (.cons rfl (.cons rfl (.cons rfl (.cons rfl (.cons rfl (.cons rfl (.cons rfl (.cons rfl (.cons rfl (.cons rfl (.cons rfl (.cons rfl (.cons rfl (.cons rfl (.cons rfl (.cons rfl (.cons rfl (.cons rfl (.cons rfl (.cons rfl (.cons rfl (.cons rfl (.cons rfl (.cons rfl (.cons rfl (.cons rfl (.cons rfl (.nil _)))))))))))))))))))))))))))))))))))))))))))))))))) ?_
            refine cd_if rfl (fun hc52 => ?_) (fun hc52 => ?_)
            ·
              refine cd_exit ?_
              refine ax_then_exit ?_
              refine ax_block_miss (by decide) ?_
              refine ax_then_exit ?_
              refine ax_then_exit ?_
              refine ax_block_hit ?_
              refine ax_then ?_
              refine At.regs (L' := [(0, _)]) (.cons rfl (.nil _)) ?_
              refine cd_seq ?_
              refine cd_region ?_
              refine st (ev_move rfl) rfl rfl rfl ?_
              refine st_call has84 rfl (fun w1 sw => qbad_any b _ _ w1 (sw.blk_eq (h := 0) rfl)) (mod_blk rfl) rfl rfl (fun _ _ => ?_)
              refine op_nil ?_
              refine ax_then ?_
              refine At.regs (L' := []) (.nil _) ?_
              refine cd_seq ?_
              refine cd_region ?_
              refine st (ev_assign rfl) rfl rfl rfl ?_
              refine op_nil ?_
              refine ax_then ?_
              refine At.regs (L' := [(2, _)]) (.cons rfl (.nil _)) ?_
              refine cd_ret ?_
              refine rt_tmp (.inl rfl) Try.results53 rfl ?_
              first
              | (have hrc : rc = [] := by
                   cases hbb : bad with
                   | true => exact hi.2.2.2.1 hbb
                   | false => rw [hbb] at hc16; exact Rr.rBad_1 hc16
                 have hnone : Rr.numS r = none := by rw [← hi.2.1, hrc]; rfl
                 exact fun w1 sw => ⟨vd, by rw [(Rr.nVal_no hnone).2.2, ← show Rr.rRest rc 1 = [] from by rw [hrc]; decide]; exact hi.2.2.1.trans hx12, by rw [(Rr.nVal_no hnone).1], by rw [(Rr.nVal_no hnone).2.1, Bool.or_true, ← hc16]; exact sw.gives (N := [(0, _)]) (.cons rfl (.nil _))⟩)
              | (exact fun w1 sw => ⟨vd, by rw [(Rr.nVal_ok hs).2.2, show r.drop (i + 1) = Rr.rRest (c :: t) 1 from by rw [hraw.2.1, ← htl]]; exact hi.2.2.1.trans hx12, by rw [(Rr.nVal_ok hs).1], by rw [(Rr.nVal_ok hs).2.1, Bool.or_false]; exact sw.gives (N := [(0, _)]) (.cons rfl (.nil _))⟩)
              | (have hnone : Rr.numS r = none := by
                   rw [← hi.2.1]
                   first
                   | exact Rr.numG_brk (by omega)
                   | exact Rr.numG_big (by omega) (by omega)
                   | (rw [show i = 10 by omega]; exact Rr.numG_ten)
                 exact fun w1 sw => ⟨Ky.nil0, Rr.nUnd_no rv hnone, by rw [(Rr.nVal_no hnone).1], by rw [(Rr.nVal_no hnone).2.1, Bool.or_true]; exact sw.gives (N := [(0, _)]) (.cons rfl (.nil _))⟩)
            ·
              refine cd_skip ?_
              refine ax_then ?_
              refine At.regs (L' := [(0, _), (3, _), (4, _), (5, _), (6, _), (7, _), (8, _), (11, _), (12, _), (13, _), (14, _), (15, _), (16, _), (17, _), (18, _), (19, _), (20, _), (21, _), (22, _), (23, _), (24, _), (25, _), (26, _), (27, _), (28, _), (29, _), (30, _), (31, _), (32, _), (33, _), (34, _), (35, _), (36, _), (37, _), (38, _), (39, _), (40, _), (41, _), (42, _), (43, _), (44, _), (45, _), (46, _), (47, _), (48, _), (49, _), (50, _), (51, _), (52, _)]) (.cons rfl (.cons rfl (.cons rfl (.cons rfl (.cons rfl (.cons rfl (.cons rfl (.cons rfl (.cons rfl (.cons rfl (.cons rfl (.cons rfl (.cons rfl (.cons rfl (.cons rfl (.cons rfl (.cons rfl (.cons rfl (.cons rfl (.cons rfl (.cons rfl (.cons rfl (.cons rfl (.cons rfl (.cons rfl (.cons rfl (.cons rfl (.cons rfl (.cons rfl (.cons rfl (.cons rfl (.cons rfl (.cons rfl (.cons rfl (.cons rfl (.cons rfl (.cons rfl (.cons rfl (.cons rfl (.cons rfl (.cons rfl (.cons rfl (.cons rfl (.cons rfl (.cons rfl (.cons rfl (.cons rfl (.cons rfl (.cons rfl (.nil _)))))))))))))))))))))))))))))))))))))))))))))))))) ?_
              refine cd_seq ?_
              refine cd_region ?_
              refine st (ev_move rfl) rfl rfl rfl ?_
              have h9 : i ≠ 9 := by
                intro h9
                subst h9
                have hc01 : c = 0 ∨ c = 1 := by omega
                rcases hc01 with rfl | rfl
                · omega
                · have := Rr.acc_nine u
                  omega
              have hs : Rr.numS r = some (Rr.acc u c i, i + 1) := by rw [← hi.2.1]; exact Rr.numG_ok (by omega) (by omega) (by omega)
              have hrng := Rr.numS_spec hs
              have hrg1 : Rr.acc u c i ≤ 4611686018427387904 := hrng.2.1
              refine st (ev_conv64 Try.underlying135 Try.underlying3 rfl (by omega) (by omega)) rfl rfl rfl ?_
              refine st (ev_assign rfl) rfl rfl rfl ?_
              refine op_nil ?_
              refine ax_then ?_
              refine At.regs (L' := [(0, _), (2, _), (3, _), (4, _), (5, _), (6, _), (7, _), (8, _), (11, _), (12, _), (13, _), (14, _), (15, _), (16, _), (17, _), (18, _), (19, _), (20, _), (21, _), (22, _), (23, _), (24, _), (25, _), (26, _), (27, _), (28, _), (29, _), (30, _), (31, _), (32, _), (33, _), (34, _), (35, _), (36, _), (37, _), (38, _), (39, _), (40, _), (41, _), (42, _), (43, _), (44, _), (45, _), (46, _), (47, _), (48, _), (49, _), (50, _), (51, _), (52, _), (53, _), (54, _)]) (.cons rfl (.cons rfl (.cons rfl (.cons rfl (.cons rfl (.cons rfl (.cons rfl (.cons rfl (.cons rfl (.cons rfl (.cons rfl (.cons rfl (.cons rfl (.cons rfl (.cons rfl (.cons rfl (.cons rfl (.cons rfl (.cons rfl (.cons rfl (.cons rfl (.cons rfl (.cons rfl (.cons rfl (.cons rfl (.cons rfl (.cons rfl (.cons rfl (.cons rfl (.cons rfl (.cons rfl (.cons rfl (.cons rfl (.cons rfl (.cons rfl (.cons rfl (.cons rfl (.cons rfl (.cons rfl (.cons rfl (.cons rfl (.cons rfl (.cons rfl (.cons rfl (.cons rfl (.cons rfl (.cons rfl (.cons rfl (.cons rfl (.cons rfl (.cons rfl (.cons rfl (.nil _))))))))))))))))))))))))))))))))))))))))))))))))))))) ?_
              refine cd_ret ?_
              refine ax_block_ret ?_
              refine ax_then_ret ?_
              refine ax_then_ret ?_
              refine ax_block_ret ?_
              refine ax_then_ret ?_
              refine rt_tmp (.inl rfl) Try.results53 rfl ?_
              first
              | (have hrc : rc = [] := by
                   cases hbb : bad with
                   | true => exact hi.2.2.2.1 hbb
                   | false => rw [hbb] at hc16; exact Rr.rBad_1 hc16
                 have hnone : Rr.numS r = none := by rw [← hi.2.1, hrc]; rfl
                 exact fun w1 sw => ⟨vd, by rw [(Rr.nVal_no hnone).2.2, ← show Rr.rRest rc 1 = [] from by rw [hrc]; decide]; exact hi.2.2.1.trans hx12, by rw [(Rr.nVal_no hnone).1], by rw [(Rr.nVal_no hnone).2.1, Bool.or_true, ← hc16]; exact sw.gives (N := [(0, _)]) (.cons rfl (.nil _))⟩)
              | (exact fun w1 sw => ⟨vd, by rw [(Rr.nVal_ok hs).2.2, show r.drop (i + 1) = Rr.rRest (c :: t) 1 from by rw [hraw.2.1, ← htl]]; exact hi.2.2.1.trans hx12, by rw [(Rr.nVal_ok hs).1], by rw [(Rr.nVal_ok hs).2.1, Bool.or_false]; exact sw.gives (N := [(0, _)]) (.cons rfl (.nil _))⟩)
              | (have hnone : Rr.numS r = none := by
                   rw [← hi.2.1]
                   first
                   | exact Rr.numG_brk (by omega)
                   | exact Rr.numG_big (by omega) (by omega)
                   | (rw [show i = 10 by omega]; exact Rr.numG_ten)
                 exact fun w1 sw => ⟨Ky.nil0, Rr.nUnd_no rv hnone, by rw [(Rr.nVal_no hnone).1], by rw [(Rr.nVal_no hnone).2.1, Bool.or_true]; exact sw.gives (N := [(0, _)]) (.cons rfl (.nil _))⟩)
  ·
    refine cd_exit ?_
    refine ax_then_exit ?_
    refine ax_then_exit ?_
    refine ax_block_hit ?_
    refine ax_then ?_
    refine At.regs (L' := [(0, _)]) (.cons rfl (.nil _)) ?_
    refine cd_seq ?_
    refine cd_region ?_
    refine st (ev_move rfl) rfl rfl rfl ?_
    refine st_call has84 rfl (fun w1 sw => qbad_any b _ _ w1 (sw.blk_eq (h := 0) rfl)) (mod_blk rfl) rfl rfl (fun _ _ => ?_)
    refine op_nil ?_
    refine ax_then ?_
    refine At.regs (L' := []) (.nil _) ?_
    refine cd_seq ?_
    refine cd_region ?_
    refine st (ev_assign rfl) rfl rfl rfl ?_
    refine op_nil ?_
    refine ax_then ?_
    refine At.regs (L' := [(2, _)]) (.cons rfl (.nil _)) ?_
    refine cd_ret ?_
    refine rt_tmp (.inl rfl) Try.results53 rfl ?_
    first
    | (have hrc : rc = [] := by
         cases hbb : bad with
         | true => exact hi.2.2.2.1 hbb
         | false => rw [hbb] at hc16; exact Rr.rBad_1 hc16
       have hnone : Rr.numS r = none := by rw [← hi.2.1, hrc]; rfl
       exact fun w1 sw => ⟨vd, by rw [(Rr.nVal_no hnone).2.2, ← show Rr.rRest rc 1 = [] from by rw [hrc]; decide]; exact hi.2.2.1.trans hx12, by rw [(Rr.nVal_no hnone).1], by rw [(Rr.nVal_no hnone).2.1, Bool.or_true, ← hc16]; exact sw.gives (N := [(0, _)]) (.cons rfl (.nil _))⟩)
    | (exact fun w1 sw => ⟨vd, by rw [(Rr.nVal_ok hs).2.2, show r.drop (i + 1) = Rr.rRest (c :: t) 1 from by rw [hraw.2.1, ← htl]]; exact hi.2.2.1.trans hx12, by rw [(Rr.nVal_ok hs).1], by rw [(Rr.nVal_ok hs).2.1, Bool.or_false]; exact sw.gives (N := [(0, _)]) (.cons rfl (.nil _))⟩)
    | (have hnone : Rr.numS r = none := by
         rw [← hi.2.1]
         first
         | exact Rr.numG_brk (by omega)
         | exact Rr.numG_big (by omega) (by omega)
         | (rw [show i = 10 by omega]; exact Rr.numG_ten)
       exact fun w1 sw => ⟨Ky.nil0, Rr.nUnd_no rv hnone, by rw [(Rr.nVal_no hnone).1], by rw [(Rr.nVal_no hnone).2.1, Bool.or_true]; exact sw.gives (N := [(0, _)]) (.cons rfl (.nil _))⟩)
set_option maxRecDepth 20000 in
set_option maxHeartbeats 1000000 in
theorem qwhole_any (b : Nat) (rv : Value) (bad : Bool) (r : List Int) (w : World) (h : Lies w b 0 [rv, .bool bad]) (h' : Rd w rv 1 (ints .u8 r)) : Calls Try.prog 54 #[.pointer (some ⟨b, 0, none⟩)] w (PostV w (.bool (!bad && decide (r.length = 0)))) := by
  refine calls_at (vs := [.pointer (some ⟨b, 0, none⟩)]) (X := []) (H := []) (F := [(21, .mem b 0 [rv, .bool bad]), (20, .sl (rv) 1 (ints .u8 (r)))]) 16 Try.func54 rfl rfl rfl ((Sat.rd0 20 h').read 21 h off_nil) ?_
  refine cd_seq ?_
  refine cd_region ?_
  refine st (ev_assign rfl) rfl rfl rfl ?_
  refine op_nil ?_
  refine ax_then ?_
  refine At.regs (L' := [(0, _), (2, _)]) (.cons rfl (.cons rfl (.nil _))) ?_
  refine cd_seq ?_
  refine cd_region ?_
  refine st (ev_move rfl) rfl rfl rfl ?_
  refine st (ev_nilCheck rfl) rfl rfl rfl ?_
  refine st (ev_fieldAddr (b := _) Try.underlying112 (f := _) rfl ty4 (by decide) rfl) rfl rfl rfl ?_
  refine st (ld_mem1 (h := 21) ty4 rfl rfl rfl (Nat.zero_add _).symm rfl) rfl rfl rfl ?_
  refine st (ev_not rfl) rfl rfl rfl ?_
  refine st (ev_move rfl) rfl rfl rfl ?_
  refine at_split (i := 8) rfl (fun hg8 => ?_) (fun hg8 => ?_)
  ·
    refine st (ev_move rfl) rfl rfl rfl ?_
    refine st (ev_nilCheck rfl) rfl rfl rfl ?_
    refine st (ev_fieldAddr (b := _) Try.underlying112 (f := _) rfl ty28 (by decide) rfl) rfl rfl rfl ?_
    refine st (ld_mem1 (h := 21) ty28 rfl rfl rfl (Nat.zero_add _).symm rfl) rfl rfl rfl ?_
    refine st (ev_len_rdi (h := 20) Try.underlying28 rfl rfl) rfl rfl rfl ?_
    refine st (ev_eql rfl rfl) rfl rfl rfl ?_
    refine st (ev_pick_t rfl rfl) rfl rfl rfl ?_
    refine st (ev_assign rfl) rfl rfl rfl ?_
    refine op_nil ?_
    refine ax_then ?_
    refine At.regs (L' := [(2, _)]) (.cons rfl (.nil _)) ?_
    refine cd_ret ?_
    refine rt_tmp (.inl rfl) Try.results54 rfl ?_
    exact fun w1 sw => ⟨congrArg (fun b => Ending.returned (Value.bool b)) (by cases bad <;> first | rfl | (rw [Bool.not_false, Bool.true_and]; exact decide_eq_decide.2 (by omega)) | simp_all), sw.gives (.nil _)⟩
  ·
    refine st_skip rfl rfl rfl ?_
    refine st_skip rfl rfl rfl ?_
    refine st_skip rfl rfl rfl ?_
    refine st_skip rfl rfl rfl ?_
    refine st_skip rfl rfl rfl ?_
    refine st_skip rfl rfl rfl ?_
    refine st (ev_pick_f rfl rfl) rfl rfl rfl ?_
    refine st (ev_assign rfl) rfl rfl rfl ?_
    refine op_nil ?_
    refine ax_then ?_
    refine At.regs (L' := [(2, _)]) (.cons rfl (.nil _)) ?_
    refine cd_ret ?_
    refine rt_tmp (.inl rfl) Try.results54 rfl ?_
    exact fun w1 sw => ⟨congrArg (fun b => Ending.returned (Value.bool b)) (by cases bad <;> first | rfl | (rw [Bool.not_false, Bool.true_and]; exact decide_eq_decide.2 (by omega)) | simp_all), sw.gives (.nil _)⟩
end Go.Proofs.Ytgfnmolbagilmaa

namespace Go.Proofs.Ytgfnmolbagilmaa
open Go Go.RowKit Fw
open Sha
open Ots
open Mk
set_option linter.unusedVariables false
set_option linter.unusedSimpArgs false
set_option maxRecDepth 20000 in
set_option maxHeartbeats 1000000 in
theorem qver_any (n : Int) (w : World) : Calls Try.prog 101 #[.int .i64 n] w (PostV w (.bool (decide (1 ≤ n ∧ n ≤ 1073741824)))) := by
  refine calls_at (vs := [.int .i64 n]) (X := []) (H := []) (F := []) 9 Try.func101 rfl rfl rfl (Sat.start0 w) ?_
  refine cd_seq ?_
  refine cd_region ?_
  refine st (ev_assign rfl) rfl rfl rfl ?_
  refine op_nil ?_
  refine ax_then ?_
  refine At.regs (L' := [(0, _), (2, _)]) (.cons rfl (.cons rfl (.nil _))) ?_
  refine cd_seq ?_
  refine cd_region ?_
  refine st (ev_move rfl) rfl rfl rfl ?_
  refine st (ev_geq rfl rfl) rfl rfl rfl ?_
  refine st (ev_move rfl) rfl rfl rfl ?_
  refine at_split_if (i := 5) rfl (fun hg5 => ?_) (fun hg5 => ?_)
  ·
    refine st (ev_move rfl) rfl rfl rfl ?_
    refine st (ev_leq rfl rfl) rfl rfl rfl ?_
    refine st (ev_pick_t rfl rfl) rfl rfl rfl ?_
    refine st (ev_assign rfl) rfl rfl rfl ?_
    refine op_nil ?_
    refine ax_then ?_
    refine At.regs (L' := [(2, _)]) (.cons rfl (.nil _)) ?_
    refine cd_ret ?_
    refine rt_tmp (.inl rfl) Try.results101 rfl ?_
    exact fun w1 sw => ⟨congrArg (fun b => Ending.returned (Value.bool b)) (by first | exact (decide_eq_false (fun hh => hg5 hh.1)).symm | exact decide_eq_decide.2 ⟨fun hh => ⟨hg5, hh⟩, fun hh => hh.2⟩), sw.gives (.nil _)⟩
  ·
    refine st_skip rfl rfl rfl ?_
    refine st_skip rfl rfl rfl ?_
    refine st (ev_pick_f rfl rfl) rfl rfl rfl ?_
    refine st (ev_assign rfl) rfl rfl rfl ?_
    refine op_nil ?_
    refine ax_then ?_
    refine At.regs (L' := [(2, _)]) (.cons rfl (.nil _)) ?_
    refine cd_ret ?_
    refine rt_tmp (.inl rfl) Try.results101 rfl ?_
    exact fun w1 sw => ⟨congrArg (fun b => Ending.returned (Value.bool b)) (by first | exact (decide_eq_false (fun hh => hg5 hh.1)).symm | exact decide_eq_decide.2 ⟨fun hh => ⟨hg5, hh⟩, fun hh => hh.2⟩), sw.gives (.nil _)⟩
set_option maxRecDepth 20000 in
set_option maxHeartbeats 2000000 in
theorem qnumb_any (q : Value) (ns : List Int) (w : World) (hn : ns.length ≤ 1000) (h : Rd w q 1 (ints .i64 ns)) : Calls Try.prog 102 #[q] w (PostV w (.bool (decide (∀ z, z ∈ ns → 0 ≤ z ∧ z ≤ 1073741824)))) := by
  refine calls_at (vs := [q]) (X := []) (H := []) (F := [(20, .sl q 1 (ints .i64 ns))]) 22 Try.func102 rfl rfl rfl (Sat.rd0 20 h) ?_
  refine cd_seq ?_
  refine cd_region ?_
  refine st (ev_assign rfl) rfl rfl rfl ?_
  refine op_nil ?_
  refine ax_then ?_
  refine At.regs (L' := [(0, _), (2, _)]) (.cons rfl (.cons rfl (.nil _))) ?_
  refine cd_seq ?_
  refine cd_seq ?_
  refine cd_region ?_
  refine st (ev_assign rfl) rfl rfl rfl ?_
  refine op_nil ?_
  refine ax_then ?_
  refine At.regs (L' := [(0, _), (2, _), (3, _)]) (.cons rfl (.cons rfl (.cons rfl (.nil _)))) ?_
  refine cd_block ?_
  refine cd_loop (ι := Nat) (fun i => i ≤ ns.length ∧ ∀ j, j < i → 0 ≤ ns.getD j 0 ∧ ns.getD j 0 ≤ 1073741824) (fun i => ns.length - i)
      (fun i => [(0, q), (3, .int .i64 (i : Int))])
      (fun i => [])
      (fun i => [(20, .sl q 1 (ints .i64 ns))])
      0 (⟨by omega, fun j hj => by omega⟩) (.cons rfl (.cons rfl (.nil _))) (.nil _) (.cons rfl (.nil _)) (fun i hi => ?_)
  have hi1 := hi.1
  refine cd_seq ?_
  refine cd_seq ?_
  refine cd_region ?_
  refine st (ev_move rfl) rfl rfl rfl ?_
  refine st (ev_move rfl) rfl rfl rfl ?_
  refine st (ev_len_rdi (h := 20) Try.underlying49 rfl rfl) rfl rfl rfl ?_
  refine st (ev_lss rfl rfl) rfl rfl rfl ?_
  refine op_nil ?_
  refine ax_then ?_
  refine At.regs (L' := [(0, _), (3, _), (4, _), (5, _), (6, _), (7, _)]) (.cons rfl (.cons rfl (.cons rfl (.cons rfl (.cons rfl (.cons rfl (.nil _))))))) ?_
  refine cd_if rfl (fun hc7 => ?_) (fun hc7 => ?_)
  ·
    have hlt : i < ns.length := by omega
    have hmem : (ns.getD i 0) ∈ ns := by rw [List.getD_eq_getElem?_getD, List.getElem?_eq_getElem hlt]; exact List.getElem_mem _
    refine cd_skip ?_
    refine ax_then ?_
    refine At.regs (L' := [(0, _), (3, _), (4, _), (5, _), (6, _), (7, _)]) (.cons rfl (.cons rfl (.cons rfl (.cons rfl (.cons rfl (.cons rfl (.nil _))))))) ?_
    refine cd_seq ?_
    refine cd_block ?_
    refine cd_seq ?_
    refine cd_region ?_
    refine st (ev_move rfl) rfl rfl rfl ?_
    refine st (ev_move rfl) rfl rfl rfl ?_
    refine st (ev_indexAddr_rdi (h := 20) Try.underlying49 ty3 rfl rfl rfl (by omega) (by first | omega | (simp only [List.length_append, List.length_cons, List.length_nil, List.length_set, List.length_replicate, List.length_take, List.length_drop, ints_length, wr_length, sha_len, node_len, recov_len, Ky.named_len, Ky.keyPub_len, Ky.hashOf_len] <;> omega))) rfl rfl rfl ?_
    refine st (ld_rd1 (h := 20) ty3 rfl rfl rfl (ints_get _ _ _ (by first | omega | (simp only [List.length_append, List.length_cons, List.length_nil, List.length_set, List.length_replicate, List.length_take, List.length_drop, ints_length, wr_length, sha_len, node_len, recov_len, Ky.named_len, Ky.keyPub_len, Ky.hashOf_len] <;> omega) | rfl))) rfl rfl rfl ?_
    refine at_eq (i := 13) (v' := .int .i64 (ns.getD i 0)) rfl (by rw [Int.toNat_natCast]) ?_
    refine st (ev_lss rfl rfl) rfl rfl rfl ?_
    refine st (ev_move rfl) rfl rfl rfl ?_
    refine at_split_if (i := 15) rfl (fun hg15 => ?_) (fun hg15 => ?_)
    ·
      refine st_skip rfl rfl rfl ?_
      refine st_skip rfl rfl rfl ?_
      refine st_skip rfl rfl rfl ?_
      refine st_skip rfl rfl rfl ?_
      refine st_skip rfl rfl rfl ?_
      refine st (ev_pick_t rfl rfl) rfl rfl rfl ?_
      refine op_nil ?_
      refine ax_then ?_
      refine At.regs (L' := [(0, _), (3, _), (4, _), (5, _), (6, _), (7, _), (10, _), (11, _), (12, _), (13, _), (14, _), (15, _), (16, _), (17, _), (18, _), (19, _), (20, _), (21, _)]) (.cons rfl (.cons rfl (.cons rfl (.cons rfl (.cons rfl (.cons rfl (.cons rfl (.cons rfl (.cons rfl (.cons rfl (.cons rfl (.cons rfl (.cons rfl (.cons rfl (.cons rfl (.cons rfl (.cons rfl (.cons rfl (.nil _))))))))))))))))))) ?_
      refine cd_true rfl ?_
      refine cd_seq ?_
      refine cd_region ?_
      refine st (ev_assign rfl) rfl rfl rfl ?_
      refine op_nil ?_
      refine ax_then ?_
      refine At.regs (L' := [(0, _), (2, _), (3, _), (4, _), (5, _), (6, _), (7, _), (10, _), (11, _), (12, _), (13, _), (14, _), (15, _), (16, _), (17, _), (18, _), (19, _), (20, _), (21, _)]) (.cons rfl (.cons rfl (.cons rfl (.cons rfl (.cons rfl (.cons rfl (.cons rfl (.cons rfl (.cons rfl (.cons rfl (.cons rfl (.cons rfl (.cons rfl (.cons rfl (.cons rfl (.cons rfl (.cons rfl (.cons rfl (.cons rfl (.nil _)))))))))))))))))))) ?_
      refine cd_ret ?_
      refine ax_block_ret ?_
      refine ax_then_ret ?_
      refine ax_then_ret ?_
      refine ax_block_ret ?_
      refine ax_then_ret ?_
      refine rt_tmp (.inl rfl) Try.results102 rfl ?_
      exact fun w1 sw => ⟨congrArg (fun b => Ending.returned (Value.bool b)) (by exact (decide_eq_false (fun hh => by have := hh _ hmem; omega)).symm), sw.gives (.nil _)⟩
    ·
      refine st (ev_move rfl) rfl rfl rfl ?_
      refine st (ev_move rfl) rfl rfl rfl ?_
      refine st (ev_indexAddr_rdi (h := 20) Try.underlying49 ty3 rfl rfl rfl (by omega) (by first | omega | (simp only [List.length_append, List.length_cons, List.length_nil, List.length_set, List.length_replicate, List.length_take, List.length_drop, ints_length, wr_length, sha_len, node_len, recov_len, Ky.named_len, Ky.keyPub_len, Ky.hashOf_len] <;> omega))) rfl rfl rfl ?_
      refine st (ld_rd1 (h := 20) ty3 rfl rfl rfl (ints_get _ _ _ (by first | omega | (simp only [List.length_append, List.length_cons, List.length_nil, List.length_set, List.length_replicate, List.length_take, List.length_drop, ints_length, wr_length, sha_len, node_len, recov_len, Ky.named_len, Ky.keyPub_len, Ky.hashOf_len] <;> omega) | rfl))) rfl rfl rfl ?_
      refine at_eq (i := 19) (v' := .int .i64 (ns.getD i 0)) rfl (by rw [Int.toNat_natCast]) ?_
      refine st (ev_gtr rfl rfl) rfl rfl rfl ?_
      refine st (ev_pick_f rfl rfl) rfl rfl rfl ?_
      refine op_nil ?_
      refine ax_then ?_
      refine At.regs (L' := [(0, _), (3, _), (4, _), (5, _), (6, _), (7, _), (10, _), (11, _), (12, _), (13, _), (14, _), (15, _), (16, _), (17, _), (18, _), (19, _), (20, _), (21, _)]) (.cons rfl (.cons rfl (.cons rfl (.cons rfl (.cons rfl (.cons rfl (.cons rfl (.cons rfl (.cons rfl (.cons rfl (.cons rfl (.cons rfl (.cons rfl (.cons rfl (.cons rfl (.cons rfl (.cons rfl (.cons rfl (.nil _))))))))))))))))))) ?_
      refine cd_if rfl (fun hc21 => ?_) (fun hc21 => ?_)
      ·
        refine cd_seq ?_
        refine cd_region ?_
        refine st (ev_assign rfl) rfl rfl rfl ?_
        refine op_nil ?_
        refine ax_then ?_
        refine At.regs (L' := [(0, _), (2, _), (3, _), (4, _), (5, _), (6, _), (7, _), (10, _), (11, _), (12, _), (13, _), (14, _), (15, _), (16, _), (17, _), (18, _), (19, _), (20, _), (21, _)]) (.cons rfl (.cons rfl (.cons rfl (.cons rfl (.cons rfl (.cons rfl (.cons rfl (.cons rfl (.cons rfl (.cons rfl (.cons rfl (.cons rfl (.cons rfl (.cons rfl (.cons rfl (.cons rfl (.cons rfl (.cons rfl (.cons rfl (.nil _)))))))))))))))))))) ?_
        refine cd_ret ?_
        refine ax_block_ret ?_
        refine ax_then_ret ?_
        refine ax_then_ret ?_
        refine ax_block_ret ?_
        refine ax_then_ret ?_
        refine rt_tmp (.inl rfl) Try.results102 rfl ?_
        exact fun w1 sw => ⟨congrArg (fun b => Ending.returned (Value.bool b)) (by exact (decide_eq_false (fun hh => by have := hh _ hmem; omega)).symm), sw.gives (.nil _)⟩
      ·
        refine cd_skip ?_
        refine ax_block ?_
        refine ax_then ?_
        refine At.regs (L' := [(0, _), (3, _), (4, _), (5, _), (6, _), (7, _), (10, _), (11, _), (12, _), (13, _), (14, _), (15, _), (16, _), (17, _), (18, _), (19, _), (20, _), (21, _)]) (.cons rfl (.cons rfl (.cons rfl (.cons rfl (.cons rfl (.cons rfl (.cons rfl (.cons rfl (.cons rfl (.cons rfl (.cons rfl (.cons rfl (.cons rfl (.cons rfl (.cons rfl (.cons rfl (.cons rfl (.cons rfl (.nil _))))))))))))))))))) ?_
        refine cd_region ?_
        refine st (ev_move rfl) rfl rfl rfl ?_
        refine st (ev_add64 rfl rfl (by omega) (by omega)) rfl rfl rfl ?_
        refine st (ev_assign rfl) rfl rfl rfl ?_
        refine op_nil ?_
        exact at_again (i + 1) (⟨by omega, fun j hj => (Nat.lt_succ_iff_lt_or_eq.1 hj).elim (hi.2 j) (fun e => by subst e; omega)⟩) (by omega) (.cons rfl (.cons rfl (.nil _))) (.nil _) (.cons rfl (.nil _))
  ·
    obtain rfl : i = ns.length := by omega
    refine cd_exit ?_
    refine ax_then_exit ?_
    refine ax_then_exit ?_
    refine ax_block_hit ?_
    refine ax_then ?_
    refine At.regs (L' := []) (.nil _) ?_
    refine cd_seq ?_
    refine cd_region ?_
    refine st (ev_assign rfl) rfl rfl rfl ?_
    refine op_nil ?_
    refine ax_then ?_
    refine At.regs (L' := [(2, _)]) (.cons rfl (.nil _)) ?_
    refine cd_ret ?_
    refine rt_tmp (.inl rfl) Try.results102 rfl ?_
    exact fun w1 sw => ⟨congrArg (fun b => Ending.returned (Value.bool b)) (by exact (decide_eq_true (fun z hz => by obtain ⟨j, hj, rfl⟩ := List.getElem_of_mem hz; have := hi.2 j hj; rwa [List.getD_eq_getElem?_getD, List.getElem?_eq_getElem hj] at this)).symm), sw.gives (.nil _)⟩
set_option maxRecDepth 20000 in
set_option maxHeartbeats 4000000 in
theorem qisroot_any (ver exp : Int) (l : List Rt.Rol) (w : World) (hl : l.length = 4) (hu : ∀ k, k ∈ Rt.kds l → H32 k.ks) (hkl : ∀ k, k ∈ Rt.kds l → k.ks.length ≤ 1000000000) (h : ∀ y, y ∈ Rt.rowsR l → Rd w y.1 y.2.1 y.2.2) : Calls Try.prog 70 #[.agg (List.toArray (Rt.rootC ver exp l))] w (PostV w (.bool (decide (Rt.isRt (⟨ver, exp, Rt.kds l⟩ : Rt.RT))))) := by
  refine calls_at (vs := [.agg (List.toArray (Rt.rootC ver exp l))]) (X := []) (H := []) (F := [(200, .rows (Rt.rowsR l))]) 23 Try.func70 rfl rfl rfl ((Sat.start0 w).read (f := .rows (Rt.rowsR l)) 200 h off_nil) ?_
  refine cd_seq ?_
  refine cd_region ?_
  refine st_box (h := 1) rfl rfl rfl rfl (fun b1 => ?_)
  refine st (ev_assign rfl) rfl rfl rfl ?_
  refine op_nil ?_
  refine ax_then ?_
  refine At.regs (L' := [(1, _), (2, _)]) (.cons rfl (.cons rfl (.nil _))) ?_
  refine cd_seq ?_
  refine cd_seq ?_
  refine cd_region ?_
  refine st (ev_assign rfl) rfl rfl rfl ?_
  refine op_nil ?_
  refine ax_then ?_
  refine At.regs (L' := [(1, _), (2, _), (3, _)]) (.cons rfl (.cons rfl (.cons rfl (.nil _)))) ?_
  refine cd_block ?_
  refine cd_loop (ι := Nat) (fun i => i ≤ 4 ∧ ∀ j, j < i → isK (l.getD j Rt.rol0).2.ks (l.getD j Rt.rol0).2.need) (fun i => 4 - i)
      (fun i => [(1, .pointer (some ⟨b1, 0, none⟩)), (3, .int .i64 (i : Int))])
      (fun i => [(1, .blk (b1) (.cells (Rt.rootC ver exp l).toArray 27))])
      (fun i => [(200, .rows (Rt.rowsR l))])
      0 (⟨by omega, fun j hj => by omega⟩) (.cons rfl (.cons rfl (.nil _))) (.cons rfl (.nil _)) (.cons rfl (.nil _)) (fun i hi => ?_)
  have hi1 := hi.1
  have e0 : (i : Int).toNat = i := by omega
  refine cd_seq ?_
  refine cd_seq ?_
  refine cd_region ?_
  refine st (ev_move rfl) rfl rfl rfl ?_
  refine st (ev_lss rfl rfl) rfl rfl rfl ?_
  refine op_nil ?_
  refine ax_then ?_
  refine At.regs (L' := [(1, _), (3, _), (4, _), (5, _)]) (.cons rfl (.cons rfl (.cons rfl (.cons rfl (.nil _))))) ?_
  refine cd_if rfl (fun hc5 => ?_) (fun hc5 => ?_)
  ·
    have hlt : i < 4 := by omega
    refine cd_skip ?_
    refine ax_then ?_
    refine At.regs (L' := [(1, _), (3, _), (4, _), (5, _)]) (.cons rfl (.cons rfl (.cons rfl (.cons rfl (.nil _))))) ?_
    refine cd_seq ?_
    refine cd_block ?_
    refine cd_seq ?_
    refine cd_region ?_
    refine st (ev_move rfl) rfl rfl rfl ?_
    refine st (ev_fieldAddr (b := _) Try.underlying27 (f := _) rfl ty25 (by decide) rfl) rfl rfl rfl ?_
    refine st (ev_indexAddr_arr Try.underlying25 ty24 rfl rfl (by omega) (by omega)) rfl rfl rfl ?_
    refine st (ld_blk (h := 1) ty24 rfl rfl rfl (by rw [Rt.rootC_len _ _ (by omega), e0]; show 0 + 2 + i * 2 + 2 ≤ 10; omega)) rfl rfl rfl ?_
    refine at_eq (i := 11) (v' := .agg (List.toArray [(l.getD i Rt.rol0).1, .int .i64 (l.getD i Rt.rol0).2.need])) rfl (congrArg (fun x => Value.agg (List.toArray x)) (by rw [e0]; exact Rt.rootC_get _ _ (l := l) (i := i) (by omega))) ?_
    refine st_callv has63 rfl (fun w1 sw => riskeys_any (l.getD i Rt.rol0).1 (l.getD i Rt.rol0).2.ks (l.getD i Rt.rol0).2.need w1 (hu _ (Rt.kds_get (by omega))) (by have := hkl _ (Rt.kds_get (i := i) (l := l) (by omega)); omega) (sw.row (i := 200) rfl (Rt.rowsR_mem (by omega)))) rfl rfl ?_
    refine st (ev_not_if rfl) rfl rfl rfl ?_
    refine op_nil ?_
    refine ax_then ?_
    refine At.regs (L' := [(1, _), (3, _), (4, _), (5, _), (8, _), (9, _), (10, _), (11, _), (12, _), (13, _)]) (.cons rfl (.cons rfl (.cons rfl (.cons rfl (.cons rfl (.cons rfl (.cons rfl (.cons rfl (.cons rfl (.cons rfl (.nil _))))))))))) ?_
    refine cd_if rfl (fun hc13 => ?_) (fun hc13 => ?_)
    ·
      refine cd_seq ?_
      refine cd_region ?_
      refine st (ev_assign rfl) rfl rfl rfl ?_
      refine op_nil ?_
      refine ax_then ?_
      refine At.regs (L' := [(1, _), (2, _), (3, _), (4, _), (5, _), (8, _), (9, _), (10, _), (11, _), (12, _), (13, _)]) (.cons rfl (.cons rfl (.cons rfl (.cons rfl (.cons rfl (.cons rfl (.cons rfl (.cons rfl (.cons rfl (.cons rfl (.cons rfl (.nil _)))))))))))) ?_
      refine cd_ret ?_
      refine ax_block_ret ?_
      refine ax_then_ret ?_
      refine ax_then_ret ?_
      refine ax_block_ret ?_
      refine ax_then_ret ?_
      refine rt_tmp (.inl rfl) Try.results70 rfl ?_
      exact fun w1 sw => ⟨congrArg (fun b => Ending.returned (Value.bool b)) (by exact (decide_eq_false (fun hh => hc13 (hh.1 _ (Rt.kds_get (by omega))))).symm), sw.gives (.nil _)⟩
    ·
      refine cd_skip ?_
      refine ax_block ?_
      refine ax_then ?_
      refine At.regs (L' := [(1, _), (3, _), (4, _), (5, _), (8, _), (9, _), (10, _), (11, _), (12, _), (13, _)]) (.cons rfl (.cons rfl (.cons rfl (.cons rfl (.cons rfl (.cons rfl (.cons rfl (.cons rfl (.cons rfl (.cons rfl (.nil _))))))))))) ?_
      refine cd_region ?_
      refine st (ev_move rfl) rfl rfl rfl ?_
      refine st (ev_add64 rfl rfl (by omega) (by omega)) rfl rfl rfl ?_
      refine st (ev_assign rfl) rfl rfl rfl ?_
      refine op_nil ?_
      exact at_again (i + 1) (⟨by omega, fun j hj => (Nat.lt_succ_iff_lt_or_eq.1 hj).elim (hi.2 j) (fun e => by subst e; exact Classical.not_not.1 hc13)⟩) (by omega) (.cons rfl (.cons rfl (.nil _))) (.cons rfl (.nil _)) (.cons rfl (.nil _))
  ·
    obtain rfl : i = 4 := by omega
    have hall : ∀ k, k ∈ Rt.kds l → isK k.ks k.need := fun k hk => by
      obtain ⟨x, hx, rfl⟩ := List.mem_map.1 hk
      obtain ⟨j, hj, rfl⟩ := List.getElem_of_mem hx
      have := hi.2 j (by omega)
      rwa [List.getD_eq_getElem?_getD, List.getElem?_eq_getElem hj] at this
    refine cd_exit ?_
    refine ax_then_exit ?_
    refine ax_then_exit ?_
    refine ax_block_hit ?_
    refine ax_then ?_
    refine At.regs (L' := [(1, _)]) (.cons rfl (.nil _)) ?_
    refine cd_seq ?_
    refine cd_region ?_
    refine st (ev_fieldAddr (b := _) Try.underlying27 (f := _) rfl ty3 (by decide) rfl) rfl rfl rfl ?_
    refine st (ld_blk1 (h := 1) ty3 rfl rfl rfl rfl) rfl rfl rfl ?_
    refine st_callv has101 rfl (fun w1 sw => qver_any ver w1) rfl rfl ?_
    refine st (ev_move rfl) rfl rfl rfl ?_
    refine at_split_if (i := 17) rfl (fun hg17 => ?_) (fun hg17 => ?_)
    ·
      refine st (ev_fieldAddr (b := _) Try.underlying27 (f := _) rfl ty3 (by decide) rfl) rfl rfl rfl ?_
      refine st (ld_blk1 (h := 1) ty3 rfl rfl rfl rfl) rfl rfl rfl ?_
      refine st_bsi (h := 20) (xs := [_]) Try.underlying49 ty3 (by decide) rfl rfl (by decide) rfl rfl (fun b20 => ?_)
      refine st_callv has102 rfl (fun w1 sw => qnumb_any (.slice (some ⟨b20, 0, none⟩) 1 1) [exp] w1 (by simp) (sw.own_rd (h := 20) rfl)) rfl rfl ?_
      refine st (ev_pick_t rfl rfl) rfl rfl rfl ?_
      refine st (ev_assign rfl) rfl rfl rfl ?_
      refine op_nil ?_
      refine ax_then ?_
      refine At.regs (L' := [(2, _)]) (.cons rfl (.nil _)) ?_
      refine cd_ret ?_
      refine rt_tmp (.inl rfl) Try.results70 rfl ?_
      exact fun w1 sw => ⟨congrArg (fun b => Ending.returned (Value.bool b)) (by exact decide_eq_decide.2 ⟨fun hh => ⟨hall, hg17.1, hg17.2, (hh exp (by simp)).1, (hh exp (by simp)).2⟩, fun hh z hz => by rw [List.mem_singleton.1 hz]; exact hh.2.2.2⟩), sw.gives (.nil _)⟩
    ·
      refine st_skip rfl rfl rfl ?_
      refine st_skip rfl rfl rfl ?_
      refine st_skip rfl rfl rfl ?_
      refine st_skip rfl rfl rfl ?_
      refine st (ev_pick_f rfl rfl) rfl rfl rfl ?_
      refine st (ev_assign rfl) rfl rfl rfl ?_
      refine op_nil ?_
      refine ax_then ?_
      refine At.regs (L' := [(2, _)]) (.cons rfl (.nil _)) ?_
      refine cd_ret ?_
      refine rt_tmp (.inl rfl) Try.results70 rfl ?_
      exact fun w1 sw => ⟨congrArg (fun b => Ending.returned (Value.bool b)) (by exact (decide_eq_false (fun hh => hg17 ⟨hh.2.1, hh.2.2.1⟩)).symm), sw.gives (.nil _)⟩
theorem flat_take6 {hs : List (List Int)} {i : Nat} (hi : i < hs.length) : (hs.take (i + 1)).flatten = (hs.take i).flatten ++ hs.getD i [] := by
  rw [List.take_succ_eq_append_getElem hi, List.flatten_append, List.getD_eq_getElem?_getD, List.getElem?_eq_getElem hi]
  simp
theorem flat_tlen6 {hs : List (List Int)} (hu : H32 hs) : ∀ i, i ≤ hs.length → (hs.take i).flatten.length = 32 * i
  | 0, _ => by simp
  | i + 1, h => by rw [flat_take6 (by omega), List.length_append, flat_tlen6 hu i (by omega), hu.get (by omega)]; omega
set_option maxRecDepth 20000 in
set_option maxHeartbeats 4000000 in
theorem qkeysb_any (kv : Value) (ks : List (List Int)) (need : Int) (w : World) (hu : H32 ks) (hkl : ks.length ≤ 1000000000) (h : Rd w kv 32 (flat ks)) : Calls Try.prog 72 #[.agg (List.toArray [kv, .int .i64 need])] w (Post (ι := Value) w [] (fun _ => True) (fun v => v) (fun v => [(0, .own (v) 5 1 (ints .u8 (Rt.encK (⟨ks, need⟩ : Rt.KD))))])) := by
  refine calls_at (vs := [.agg (List.toArray [kv, .int .i64 need])]) (X := []) (H := []) (F := [(20, .sl (kv) 32 (flat (ks)))]) 28 Try.func72 rfl rfl rfl (Sat.rd0 20 h) ?_
  refine cd_seq ?_
  refine cd_region ?_
  refine st_box (h := 1) rfl rfl rfl rfl (fun b1 => ?_)
  refine st (ev_assign rfl) rfl rfl rfl ?_
  refine at_own_nil 2 5 1 ?_
  refine at_heq (i := 2) (v' := .own (.slice none 0 0) 5 1 (ints .u8 [])) rfl rfl ?_
  refine op_nil ?_
  refine ax_then ?_
  refine At.regs (L' := [(1, _), (2, _)]) (.cons rfl (.cons rfl (.nil _))) ?_
  refine cd_seq ?_
  refine cd_region ?_
  refine st (ev_fieldAddr (b := _) Try.underlying24 (f := _) rfl ty22 (by decide) rfl) rfl rfl rfl ?_
  refine st (ld_blk1 (h := 1) ty22 rfl rfl rfl rfl) rfl rfl rfl ?_
  refine st (ev_len_rdh (h := 20) Try.underlying22 rfl rfl (by assumption)) rfl rfl rfl ?_
  refine st_call has103 rfl (fun w1 sw => rn 8 (qnum_any _ w1)) nil_all rfl rfl (fun v8 _ => ?_)
  refine st (ev_assign rfl) rfl rfl rfl ?_
  refine op_nil ?_
  refine ax_then ?_
  refine At.regs (L' := [(1, _), (2, _), (3, _)]) (.cons rfl (.cons rfl (.cons rfl (.nil _)))) ?_
  refine cd_seq ?_
  refine cd_seq ?_
  refine cd_region ?_
  refine st (ev_assign rfl) rfl rfl rfl ?_
  refine op_nil ?_
  refine ax_then ?_
  refine At.regs (L' := [(1, _), (2, _), (3, _), (4, _)]) (.cons rfl (.cons rfl (.cons rfl (.cons rfl (.nil _))))) ?_
  refine cd_block ?_
  refine at_heq (i := 8) (v' := .own (v8) 5 1 (ints .u8 (Rr.num (ks.length : Nat) ++ (ks.take 0).flatten))) rfl (by simp) ?_
  refine cd_loop (ι := Nat × Value) (fun x => x.1 ≤ ks.length) (fun x => ks.length - x.1)
      (fun x => [(1, .pointer (some ⟨b1, 0, none⟩)), (3, x.2), (4, .int .i64 (x.1 : Int))])
      (fun x => [(1, .blk (b1) (.cells ([kv, .int .i64 need]).toArray 24)), (8, .own (x.2) 5 1 (ints .u8 (Rr.num (ks.length : Nat) ++ (ks.take x.1).flatten)))])
      (fun x => [(20, .sl (kv) 32 (flat (ks)))])
      (0, v8) (by omega) (.cons rfl (.cons rfl (.cons rfl (.nil _)))) (.cons rfl (.cons rfl (.nil _))) (.cons rfl (.nil _)) (fun x hi => ?_)
  have hft := flat_tlen6 hu x.1 hi
  have hn9 := Rr.num_len (ks.length : Nat)
  have hcur : (Rr.num (ks.length : Nat) ++ (ks.take x.1).flatten).length ≤ 9 + 32 * x.1 := by rw [List.length_append]; omega
  refine cd_seq ?_
  refine cd_seq ?_
  refine cd_region ?_
  refine st (ev_move rfl) rfl rfl rfl ?_
  refine st (ev_fieldAddr (b := _) Try.underlying24 (f := _) rfl ty22 (by decide) rfl) rfl rfl rfl ?_
  refine st (ld_blk1 (h := 1) ty22 rfl rfl rfl rfl) rfl rfl rfl ?_
  refine st (ev_len_rdh (h := 20) Try.underlying22 rfl rfl (by assumption)) rfl rfl rfl ?_
  refine st (ev_lss rfl rfl) rfl rfl rfl ?_
  refine op_nil ?_
  refine ax_then ?_
  refine At.regs (L' := [(1, _), (3, _), (4, _), (9, _), (10, _), (11, _), (12, _), (13, _)]) (.cons rfl (.cons rfl (.cons rfl (.cons rfl (.cons rfl (.cons rfl (.cons rfl (.cons rfl (.nil _))))))))) ?_
  refine cd_if rfl (fun hc13 => ?_) (fun hc13 => ?_)
  ·
    have hlt : x.1 < ks.length := by omega
    have hg : (ks.getD x.1 []).length = 32 := hu.get hlt
    refine cd_skip ?_
    refine ax_then ?_
    refine At.regs (L' := [(1, _), (3, _), (4, _), (9, _), (10, _), (11, _), (12, _), (13, _)]) (.cons rfl (.cons rfl (.cons rfl (.cons rfl (.cons rfl (.cons rfl (.cons rfl (.cons rfl (.nil _))))))))) ?_
    refine cd_seq ?_
    refine cd_block ?_
    refine cd_region ?_
    refine st (ev_move rfl) rfl rfl rfl ?_
    refine st (ev_fieldAddr (b := _) Try.underlying24 (f := _) rfl ty22 (by decide) rfl) rfl rfl rfl ?_
    refine st (ld_blk1 (h := 1) ty22 rfl rfl rfl rfl) rfl rfl rfl ?_
    refine st (ev_move rfl) rfl rfl rfl ?_
    refine st (ev_indexAddr_rdh (h := 20) Try.underlying22 ty55 rfl rfl rfl (by assumption) (by omega) (by omega)) rfl rfl rfl ?_
    refine st (ev_arrAt Try.underlying55 ty5 rfl (fun w1 sw => sw.sl_rd (h := 20) rfl) (by rw [flat_len (by assumption)]; omega)) rfl rfl rfl ?_
    refine st_appendi (h := 8) (cs := ks.getD x.1 []) Try.underlying28 Try.underlying28 ty5 rfl rfl rfl rfl (fun w1 sw => (by have := rd_arrh (i := (x.1 : Int).toNat) (sw.sl_rd (h := 20) rfl) hu (by omega); rwa [Int.toNat_natCast] at this)) (by omega) (by decide) rfl rfl (fun v22 => ?_)
    refine st (ev_assign rfl) rfl rfl rfl ?_
    refine op_nil ?_
    refine ax_block ?_
    refine ax_then ?_
    refine At.regs (L' := [(1, _), (3, _), (4, _), (9, _), (10, _), (11, _), (12, _), (13, _), (16, _), (17, _), (18, _), (19, _), (20, _), (21, _), (22, _)]) (.cons rfl (.cons rfl (.cons rfl (.cons rfl (.cons rfl (.cons rfl (.cons rfl (.cons rfl (.cons rfl (.cons rfl (.cons rfl (.cons rfl (.cons rfl (.cons rfl (.cons rfl (.nil _)))))))))))))))) ?_
    refine cd_region ?_
    refine st (ev_move rfl) rfl rfl rfl ?_
    refine st (ev_add64 rfl rfl (by omega) (by omega)) rfl rfl rfl ?_
    refine st (ev_assign rfl) rfl rfl rfl ?_
    refine op_nil ?_
    refine ax_heq (i := 8) (v' := .own (v22) 5 1 (ints .u8 (Rr.num (ks.length : Nat) ++ (ks.take (x.1 + 1)).flatten))) rfl (by rw [flat_take6 hlt, List.append_assoc]) ?_
    exact at_again ((x.1 + 1, v22)) (by show x.1 + 1 ≤ ks.length; omega) (by omega) (.cons rfl (.cons rfl (.cons rfl (.nil _)))) (.cons rfl (.cons rfl (.nil _))) (.cons rfl (.nil _))
  ·
    obtain ⟨i, v⟩ := x
    dsimp only at hi hc13 hft hcur ⊢
    obtain rfl : i = ks.length := by omega
    refine cd_exit ?_
    refine ax_then_exit ?_
    refine ax_then_exit ?_
    refine ax_block_hit ?_
    refine ax_then ?_
    refine At.regs (L' := [(1, _), (3, _)]) (.cons rfl (.cons rfl (.nil _))) ?_
    refine cd_seq ?_
    refine cd_region ?_
    refine st (ev_move rfl) rfl rfl rfl ?_
    refine st (ev_fieldAddr (b := _) Try.underlying24 (f := _) rfl ty3 (by decide) rfl) rfl rfl rfl ?_
    refine st (ld_blk1 (h := 1) ty3 rfl rfl rfl rfl) rfl rfl rfl ?_
    refine st_call has103 rfl (fun w1 sw => rn 26 (qnum_any need w1)) nil_all rfl rfl (fun v26 _ => ?_)
    have hnl := Rr.num_len need
    refine st_appendi (h := 8) Try.underlying28 Try.underlying28 ty5 rfl rfl rfl rfl (fun w1 sw => sw.own_rd (h := 26) rfl) (by first | omega | (simp only [List.length_append, List.length_cons, List.length_nil, List.length_set, List.length_replicate, List.length_take, List.length_drop, ints_length, wr_length, sha_len, node_len, recov_len, Ky.named_len, Ky.keyPub_len, Ky.hashOf_len] <;> omega)) (by decide) rfl rfl (fun v27 => ?_)
    refine at_heq (i := 8) (v' := .own (v27) 5 1 (ints .u8 (Rt.encK (⟨ks, need⟩ : Rt.KD)))) rfl (by rw [Rt.encK, List.take_length, List.append_assoc]) ?_
    refine st (ev_assign rfl) rfl rfl rfl ?_
    refine op_nil ?_
    refine ax_then ?_
    refine At.regs (L' := [(2, _)]) (.cons rfl (.nil _)) ?_
    refine cd_ret ?_
    refine rt_tmp (.inl rfl) Try.results72 rfl ?_
    exact fun w1 sw => ⟨v27, trivial, rfl, (sw.gives (N := [(8, _)]) (.cons rfl (.nil _))).rn 0⟩
theorem enc_step {ver exp : Int} {l : List Rt.Rol} {i : Nat} (hi : i < l.length) : (Rr.num 1 ++ (Rr.num ver ++ (Rr.num exp ++ Rt.encRs (Rt.kds (l.take i))))) ++ Rt.encK ⟨(l.getD i Rt.rol0).2.ks, (l.getD i Rt.rol0).2.need⟩ = Rr.num 1 ++ (Rr.num ver ++ (Rr.num exp ++ Rt.encRs (Rt.kds (l.take (i + 1))))) := by
  have e : l.getD i Rt.rol0 = l[i] := by rw [List.getD_eq_getElem?_getD, List.getElem?_eq_getElem hi]; rfl
  rw [List.take_succ_eq_append_getElem hi, Rt.kds_snoc, Rt.encRs_snoc, e]
  simp only [List.append_assoc]
set_option maxRecDepth 20000 in
set_option maxHeartbeats 2000000 in
theorem qencroot_no (ver exp : Int) (l : List Rt.Rol) (w : World) (hl : l.length = 4) (hu : ∀ k, k ∈ Rt.kds l → H32 k.ks) (hkl : ∀ k, k ∈ Rt.kds l → k.ks.length ≤ 1000000000) (h : ∀ y, y ∈ Rt.rowsR l → Rd w y.1 y.2.1 y.2.2) (hn : ¬ Rt.isRt (⟨ver, exp, Rt.kds l⟩ : Rt.RT)) : Calls Try.prog 39 #[.agg (List.toArray (Rt.rootC ver exp l))] w (PostV w (.tuple #[.slice none 0 0, .int .i64 1])) := by
  refine calls_at (vs := [.agg (List.toArray (Rt.rootC ver exp l))]) (X := []) (H := []) (F := [(200, .rows (Rt.rowsR l))]) 27 Try.func39 rfl rfl rfl ((Sat.start0 w).read (f := .rows (Rt.rowsR l)) 200 h off_nil) ?_
  refine cd_seq ?_
  refine cd_region ?_
  refine st_box (h := 1) rfl rfl rfl rfl (fun b1 => ?_)
  refine st (ev_assign rfl) rfl rfl rfl ?_
  refine at_own_nil 2 5 1 ?_
  refine at_heq (i := 2) (v' := .own (.slice none 0 0) 5 1 (ints .u8 [])) rfl rfl ?_
  refine st (ev_assign rfl) rfl rfl rfl ?_
  refine op_nil ?_
  refine ax_then ?_
  refine At.regs (L' := [(1, _), (2, _), (3, _)]) (.cons rfl (.cons rfl (.cons rfl (.nil _)))) ?_
  refine cd_seq ?_
  refine cd_seq ?_
  refine cd_region ?_
  refine st (ld_blk_all (h := 1) ty27 rfl rfl rfl (Rt.rootC_len _ _ (by omega))) rfl rfl rfl ?_
  refine st_callv has70 rfl (fun w1 sw => qisroot_any ver exp l w1 hl hu hkl (fun y hy => sw.rd 200 _ rfl y hy)) rfl rfl ?_
  refine st (ev_not_if rfl) rfl rfl rfl ?_
  refine op_nil ?_
  refine ax_then ?_
  refine At.regs (L' := [(1, _), (2, _), (3, _), (8, _)]) (.cons rfl (.cons rfl (.cons rfl (.cons rfl (.nil _))))) ?_
  refine cd_if_t rfl (hn) ?_
  refine cd_seq ?_
  refine cd_region ?_
  refine st (ev_assign rfl) rfl rfl rfl ?_
  refine at_own_nil 2 5 1 ?_
  refine at_heq (i := 2) (v' := .own (.slice none 0 0) 5 1 (ints .u8 [])) rfl rfl ?_
  refine st (ev_assign rfl) rfl rfl rfl ?_
  refine op_nil ?_
  refine ax_then ?_
  refine At.regs (L' := [(1, _), (2, _), (3, _)]) (.cons rfl (.cons rfl (.cons rfl (.nil _)))) ?_
  refine cd_ret ?_
  refine ax_then_ret ?_
  refine rt_tmp2 (.inl rfl) Try.results39 rfl rfl ?_
  exact fun w1 sw => ⟨rfl, sw.gives (.nil _)⟩
set_option maxRecDepth 20000 in
set_option maxHeartbeats 4000000 in
theorem qencroot_ok (ver exp : Int) (l : List Rt.Rol) (w : World) (hl : l.length = 4) (hu : ∀ k, k ∈ Rt.kds l → H32 k.ks) (hkl : ∀ k, k ∈ Rt.kds l → k.ks.length ≤ 1000000000) (h : ∀ y, y ∈ Rt.rowsR l → Rd w y.1 y.2.1 y.2.2) (hn : Rt.isRt (⟨ver, exp, Rt.kds l⟩ : Rt.RT)) : Calls Try.prog 39 #[.agg (List.toArray (Rt.rootC ver exp l))] w (Post (ι := Value) w [] (fun _ => True) (fun v => .tuple #[v, .int .i64 0]) (fun v => [(0, .own (v) 5 1 (ints .u8 (Rt.encR (⟨ver, exp, Rt.kds l⟩ : Rt.RT))))])) := by
  refine calls_at (vs := [.agg (List.toArray (Rt.rootC ver exp l))]) (X := []) (H := []) (F := [(200, .rows (Rt.rowsR l))]) 27 Try.func39 rfl rfl rfl ((Sat.start0 w).read (f := .rows (Rt.rowsR l)) 200 h off_nil) ?_
  refine cd_seq ?_
  refine cd_region ?_
  refine st_box (h := 1) rfl rfl rfl rfl (fun b1 => ?_)
  refine st (ev_assign rfl) rfl rfl rfl ?_
  refine at_own_nil 2 5 1 ?_
  refine at_heq (i := 2) (v' := .own (.slice none 0 0) 5 1 (ints .u8 [])) rfl rfl ?_
  refine st (ev_assign rfl) rfl rfl rfl ?_
  refine op_nil ?_
  refine ax_then ?_
  refine At.regs (L' := [(1, _), (2, _), (3, _)]) (.cons rfl (.cons rfl (.cons rfl (.nil _)))) ?_
  refine cd_seq ?_
  refine cd_seq ?_
  refine cd_region ?_
  refine st (ld_blk_all (h := 1) ty27 rfl rfl rfl (Rt.rootC_len _ _ (by omega))) rfl rfl rfl ?_
  refine st_callv has70 rfl (fun w1 sw => qisroot_any ver exp l w1 hl hu hkl (fun y hy => sw.rd 200 _ rfl y hy)) rfl rfl ?_
  refine st (ev_not_if rfl) rfl rfl rfl ?_
  refine op_nil ?_
  refine ax_then ?_
  refine At.regs (L' := [(1, _), (2, _), (3, _), (8, _)]) (.cons rfl (.cons rfl (.cons rfl (.cons rfl (.nil _))))) ?_
  refine cd_if_f rfl (fun h => h hn) ?_
  refine cd_skip ?_
  refine ax_then ?_
  refine At.regs (L' := [(1, _), (2, _), (3, _)]) (.cons rfl (.cons rfl (.cons rfl (.nil _)))) ?_
  refine cd_seq ?_
  refine cd_region ?_
  refine st (ev_fieldAddr (b := _) Try.underlying27 (f := _) rfl ty3 (by decide) rfl) rfl rfl rfl ?_
  refine st (ld_blk1 (h := 1) ty3 rfl rfl rfl rfl) rfl rfl rfl ?_
  refine st (ev_fieldAddr (b := _) Try.underlying27 (f := _) rfl ty3 (by decide) rfl) rfl rfl rfl ?_
  refine st (ld_blk1 (h := 1) ty3 rfl rfl rfl rfl) rfl rfl rfl ?_
  refine st_bsi (h := 13) (xs := [_, _, _]) Try.underlying49 ty3 (by decide) rfl rfl (by decide) rfl rfl (fun b13 => ?_)
  refine st_call has71 rfl (fun w1 sw => rn 14 (qnums_any (.slice (some ⟨b13, 0, none⟩) 3 3) [1, ver, exp] w1 (by simp) (sw.own_rd (h := 13) rfl))) nil_all rfl rfl (fun v14 _ => ?_)
  refine at_heq (i := 14) (v' := .own (v14) 5 1 (ints .u8 (Rr.num 1 ++ (Rr.num ver ++ (Rr.num exp ++ Rt.encRs (Rt.kds (l.take 0))))))) rfl (by simp [Rr.nums, Rt.encRs, Rt.kds]) ?_
  refine st (ev_assign rfl) rfl rfl rfl ?_
  refine op_nil ?_
  refine ax_then ?_
  refine At.regs (L' := [(1, _), (2, _), (3, _), (4, _)]) (.cons rfl (.cons rfl (.cons rfl (.cons rfl (.nil _))))) ?_
  refine cd_seq ?_
  refine cd_seq ?_
  refine cd_region ?_
  refine st (ev_assign rfl) rfl rfl rfl ?_
  refine op_nil ?_
  refine ax_then ?_
  refine At.regs (L' := [(1, _), (2, _), (3, _), (4, _), (5, _)]) (.cons rfl (.cons rfl (.cons rfl (.cons rfl (.cons rfl (.nil _)))))) ?_
  refine cd_block ?_
  refine cd_loop (ι := Nat × Value) (fun x => x.1 ≤ 4) (fun x => 4 - x.1)
      (fun x => [(1, .pointer (some ⟨b1, 0, none⟩)), (4, x.2), (5, .int .i64 (x.1 : Int))])
      (fun x => [(1, .blk (b1) (.cells (Rt.rootC ver exp l).toArray 27)), (14, .own (x.2) 5 1 (ints .u8 (Rr.num 1 ++ (Rr.num ver ++ (Rr.num exp ++ Rt.encRs (Rt.kds (l.take x.1)))))))])
      (fun x => [(200, .rows (Rt.rowsR l))])
      (0, v14) (Nat.zero_le _) (.cons rfl (.cons rfl (.cons rfl (.nil _)))) (.cons rfl (.cons rfl (.nil _))) (.cons rfl (.nil _)) (fun x hi => ?_)
  obtain ⟨i, u⟩ := x
  dsimp only at hi ⊢
  have e0 : (i : Int).toNat = i := by omega
  have hrl := Rt.encRs_len (l := Rt.kds (l.take i)) (fun k hk => hu k (by obtain ⟨x, hx, rfl⟩ := List.mem_map.1 hk; exact List.mem_map_of_mem (List.mem_of_mem_take hx))) 1000000000 (fun k hk => hkl k (by obtain ⟨x, hx, rfl⟩ := List.mem_map.1 hk; exact List.mem_map_of_mem (List.mem_of_mem_take hx)))
  have hktl : (Rt.kds (l.take i)).length ≤ 4 := by rw [Rt.kds_len, List.length_take]; omega
  have hmul : (Rt.kds (l.take i)).length * (18 + 32 * 1000000000) ≤ 4 * (18 + 32 * 1000000000) := Nat.mul_le_mul_right _ hktl
  have hn1 := Rr.num_len 1
  have hn2 := Rr.num_len ver
  have hn3 := Rr.num_len exp
  have hel : (Rr.num 1 ++ (Rr.num ver ++ (Rr.num exp ++ Rt.encRs (Rt.kds (l.take i))))).length ≤ 27 + 4 * (18 + 32 * 1000000000) := by simp only [List.length_append]; omega
  refine cd_seq ?_
  refine cd_seq ?_
  refine cd_region ?_
  refine st (ev_move rfl) rfl rfl rfl ?_
  refine st (ev_lss rfl rfl) rfl rfl rfl ?_
  refine op_nil ?_
  refine ax_then ?_
  refine At.regs (L' := [(1, _), (4, _), (5, _), (15, _), (16, _)]) (.cons rfl (.cons rfl (.cons rfl (.cons rfl (.cons rfl (.nil _)))))) ?_
  refine cd_if rfl (fun hc16 => ?_) (fun hc16 => ?_)
  ·
    have hlt : i < 4 := by omega
    refine cd_skip ?_
    refine ax_then ?_
    refine At.regs (L' := [(1, _), (4, _), (5, _), (15, _), (16, _)]) (.cons rfl (.cons rfl (.cons rfl (.cons rfl (.cons rfl (.nil _)))))) ?_
    refine cd_seq ?_
    refine cd_block ?_
    refine cd_region ?_
    refine st (ev_move rfl) rfl rfl rfl ?_
    refine st (ev_move rfl) rfl rfl rfl ?_
    refine st (ev_fieldAddr (b := _) Try.underlying27 (f := _) rfl ty25 (by decide) rfl) rfl rfl rfl ?_
    refine st (ev_indexAddr_arr Try.underlying25 ty24 rfl rfl (by omega) (by omega)) rfl rfl rfl ?_
    refine st (ld_blk (h := 1) ty24 rfl rfl rfl (by rw [Rt.rootC_len _ _ (by omega), e0]; show 0 + 2 + i * 2 + 2 ≤ 10; omega)) rfl rfl rfl ?_
    refine at_eq (i := 23) (v' := .agg (List.toArray [(l.getD i Rt.rol0).1, .int .i64 (l.getD i Rt.rol0).2.need])) rfl (congrArg (fun x => Value.agg (List.toArray x)) (by rw [e0]; exact Rt.rootC_get _ _ (l := l) (i := i) (by omega))) ?_
    refine st_call has72 rfl (fun w1 sw => rn 24 (qkeysb_any (l.getD i Rt.rol0).1 (l.getD i Rt.rol0).2.ks (l.getD i Rt.rol0).2.need w1 (hu _ (Rt.kds_get (by omega))) (hkl _ (Rt.kds_get (by omega))) (sw.row (i := 200) rfl (Rt.rowsR_mem (by omega))))) nil_all rfl rfl (fun v24 _ => ?_)
    have hkl2 : (Rt.encK ⟨(l.getD i Rt.rol0).2.ks, (l.getD i Rt.rol0).2.need⟩).length ≤ 18 + 32 * (l.getD i Rt.rol0).2.ks.length := Rt.encK_len (hu _ (Rt.kds_get (l := l) (i := i) (by omega)))
    have hkl3 := hkl _ (Rt.kds_get (l := l) (i := i) (by omega))
    refine st_appendi (h := 14) Try.underlying28 Try.underlying28 ty5 rfl rfl rfl rfl (fun w1 sw => sw.own_rd (h := 24) rfl) (by first | omega | (simp only [List.length_append, List.length_cons, List.length_nil, List.length_set, List.length_replicate, List.length_take, List.length_drop, ints_length, wr_length, sha_len, node_len, recov_len, Ky.named_len, Ky.keyPub_len, Ky.hashOf_len] <;> omega)) (by decide) rfl rfl (fun v25 => ?_)
    refine st (ev_assign rfl) rfl rfl rfl ?_
    refine op_nil ?_
    refine ax_block ?_
    refine ax_then ?_
    refine At.regs (L' := [(1, _), (4, _), (5, _), (15, _), (16, _), (19, _), (20, _), (21, _), (22, _), (23, _), (24, _), (25, _)]) (.cons rfl (.cons rfl (.cons rfl (.cons rfl (.cons rfl (.cons rfl (.cons rfl (.cons rfl (.cons rfl (.cons rfl (.cons rfl (.cons rfl (.nil _))))))))))))) ?_
    refine cd_region ?_
    refine st (ev_move rfl) rfl rfl rfl ?_
    refine st (ev_add64 rfl rfl (by omega) (by omega)) rfl rfl rfl ?_
    refine st (ev_assign rfl) rfl rfl rfl ?_
    refine op_nil ?_
    refine ax_heq (i := 14) (v' := .own (v25) 5 1 (ints .u8 (Rr.num 1 ++ (Rr.num ver ++ (Rr.num exp ++ Rt.encRs (Rt.kds (l.take (i + 1)))))))) rfl (by rw [enc_step (by omega)]) ?_
    exact at_again ((i + 1, v25)) (by show i + 1 ≤ 4; omega) (by omega) (.cons rfl (.cons rfl (.cons rfl (.nil _)))) (.cons rfl (.cons rfl (.nil _))) (.cons rfl (.nil _))
  ·
    obtain rfl : i = 4 := by omega
    refine at_heq (i := 14) (v' := .own (u) 5 1 (ints .u8 (Rt.encR (⟨ver, exp, Rt.kds l⟩ : Rt.RT)))) rfl (by rw [List.take_of_length_le (by omega)]; rfl) ?_
    refine cd_exit ?_
    refine ax_then_exit ?_
    refine ax_then_exit ?_
    refine ax_block_hit ?_
    refine ax_then ?_
    refine At.regs (L' := [(4, _)]) (.cons rfl (.nil _)) ?_
    refine cd_seq ?_
    refine cd_region ?_
    refine st (ev_move rfl) rfl rfl rfl ?_
    refine st (ev_assign rfl) rfl rfl rfl ?_
    refine st (ev_assign rfl) rfl rfl rfl ?_
    refine op_nil ?_
    refine ax_then ?_
    refine At.regs (L' := [(2, _), (3, _)]) (.cons rfl (.cons rfl (.nil _))) ?_
    refine cd_ret ?_
    refine rt_tmp2 (.inl rfl) Try.results39 rfl rfl ?_
    exact fun w1 sw => ⟨u, trivial, rfl, (sw.gives (N := [(14, _)]) (.cons rfl (.nil _))).rn 0⟩
end Go.Proofs.Ytgfnmolbagilmaa

namespace Go.Proofs.Ytgfnmolbagilmaa
open Go Go.RowKit Fw
open Sha
open Ots
open Mk
set_option linter.unusedVariables false
set_option linter.unusedSimpArgs false
set_option maxRecDepth 20000 in
set_option maxHeartbeats 4000000 in
theorem whash_any (b : Nat) (rv : Value) (bad : Bool) (r : List Int) (w : World) (hb : w.heap[b]? = some (.cells (List.toArray [rv, .bool bad]) 139)) (h : Rd w rv 1 (ints .u8 r)) (ho : FE.off b (.sl rv 1 (ints .u8 r))) (hr : r.length ≤ 140737488352000) : Calls Try.prog 114 #[.agg (List.toArray [.pointer (some ⟨b, 0, none⟩)])] w (Post (ι := Value) w [b] (fun x => Rr.Und rv r x (Ky.rawRest r)) (fun _ => .agg (ints .u8 (Ky.hashOf r)).toArray) (fun x => [(0, .blk (b) (.cells ([x, .bool (bad || decide (r.length < 32))]).toArray 139))])) := by
  have hro := Ky.rawOut_len r
  have hhl := Ky.hashOf_len r
  refine calls_at (vs := [.agg (List.toArray [.pointer (some ⟨b, 0, none⟩)])]) (X := [b]) (H := [(0, .blk (b) (.cells ([rv, .bool (bad)]).toArray 139))]) (F := [(1, .sl rv 1 (ints .u8 r))]) 9 Try.func114 rfl rfl rfl ((Sat.blkX 0 hb).readb (f := .sl rv 1 (ints .u8 r)) 1 h ho) ?_
  refine cd_seq ?_
  refine cd_region ?_
  refine st_box (h := 1) rfl rfl rfl rfl (fun b1 => ?_)
  refine st_alloc (h := 2) ty55 rfl rfl rfl (fun b2 => ?_)
  refine op_nil ?_
  refine ax_then ?_
  refine At.regs (L' := [(1, _), (2, _)]) (.cons rfl (.cons rfl (.nil _))) ?_
  refine cd_seq ?_
  refine at_freeze_blk (h := 1) (H' := [(0, _), (2, _)]) 5 rfl (.cons rfl (.cons rfl (.nil _))) rfl ?_
  refine cd_mix hmix ?_
  refine mx (i := 0) rfl (by decide +kernel) (by decide +kernel) (by decide +kernel) rfl (fun w0 => ev_slice_arr_all Try.underlying55 ty5 rfl) rfl rfl (Sub.refl _) ?_
  refine mx (i := 1) rfl (by decide +kernel) (by decide +kernel) (by decide +kernel) rfl (fun w0 => ev_fieldAddr (b := _) Try.underlying117 (f := _) rfl ty107 (by decide) rfl) rfl rfl (Sub.refl _) ?_
  refine mx (i := 2) rfl (by decide +kernel) (by decide +kernel) (by decide +kernel) rfl (fun w0 => ld_mem1 (h := 5) ty107 rfl rfl rfl (Nat.zero_add _).symm rfl) rfl rfl (Sub.refl _) ?_
  refine mx_one (i := 3) (by decide +kernel) (Sub.refl _) ?_
  refine wo (i := 3) rfl ?_
  refine st_call has128 rfl (fun w1 sw => rn2 0 6 (rraw_g b rv bad r w1 (sw.blk_eq (h := 0) rfl) (sw.sl_rd (h := 1) rfl) (sw.off 1 _ 0 _ rfl rfl _ (by simp [Ent.ids])) (by omega) 32)) (mod_blk2 rfl) rfl rfl (fun x6 hx6 => ?_)
  obtain ⟨vd, vo⟩ := x6
  dsimp only at hx6 ⊢
  rw [(Rr.rOut_32 r).2.1] at hx6
  refine at_heq (i := 6) (v' := .own (vo) 5 1 (ints .u8 (Ky.rawOut r))) rfl (by rw [(Rr.rOut_32 r).1]) ?_
  refine at_heq (i := 0) (v' := .blk (b) (.cells ([vd, .bool (bad || decide (r.length < 32))]).toArray 139)) rfl (by rw [(Rr.rOut_32 r).2.2]) ?_
  refine op_nil ?_
  refine ax_then ?_
  refine mx_one (i := 4) (by decide +kernel) (Sub.refl _) ?_
  refine wo (i := 4) rfl ?_
  refine st_copy (n := (Ky.rawOut r).length) 2 Try.underlying28 ty5 rfl rfl rfl (fun w1 sw => sw.own_rd (h := 6) rfl) (by decide) (by rw [ints_length, Nat.mul_one]) (by rw [ints_length, List.length_replicate]; decide) (ints_one _ _) rfl rfl ?_
  refine at_heq (i := 2) (v' := .blk b2 (.cells (ints .u8 (Ky.hashOf r)).toArray 55)) rfl (by rw [Ky.hash_copy]) ?_
  refine op_nil ?_
  refine ax_then ?_
  refine mx_done (by decide +kernel) (Sub.refl _) ?_
  refine ax_then ?_
  refine At.regs (L' := [(2, _)]) (.cons rfl (.nil _)) ?_
  refine cd_seq ?_
  refine cd_region ?_
  refine st (ld_blk_all (h := 2) ty55 rfl rfl rfl (by first | omega | (simp only [List.length_append, List.length_cons, List.length_nil, List.length_set, List.length_replicate, List.length_take, List.length_drop, ints_length, wr_length, sha_len, node_len, recov_len, Ky.named_len, Ky.keyPub_len, Ky.hashOf_len] <;> omega) | rfl)) rfl rfl rfl ?_
  refine st_store_all 2 ty55 rfl rfl rfl rfl (by first | omega | (simp only [List.length_append, List.length_cons, List.length_nil, List.length_set, List.length_replicate, List.length_take, List.length_drop, ints_length, wr_length, sha_len, node_len, recov_len, Ky.named_len, Ky.keyPub_len, Ky.hashOf_len] <;> omega) | rfl) (ints_one _ _) (by first | omega | (simp only [List.length_append, List.length_cons, List.length_nil, List.length_set, List.length_replicate, List.length_take, List.length_drop, ints_length, wr_length, sha_len, node_len, recov_len, Ky.named_len, Ky.keyPub_len, Ky.hashOf_len] <;> omega) | rfl) rfl ?_
  refine op_nil ?_
  refine ax_then ?_
  refine At.regs (L' := [(2, _)]) (.cons rfl (.nil _)) ?_
  refine cd_ret ?_
  refine rt_cell (h0 := 2) (.inl rfl) Try.results114 ty55 rfl rfl rfl (by first | omega | (simp only [List.length_append, List.length_cons, List.length_nil, List.length_set, List.length_replicate, List.length_take, List.length_drop, ints_length, wr_length, sha_len, node_len, recov_len, Ky.named_len, Ky.keyPub_len, Ky.hashOf_len] <;> omega) | rfl) ?_
  exact fun w1 sw => ⟨vd, hx6, rfl, (sw.gives (N := [(0, _)]) (.cons rfl (.nil _)))⟩
set_option maxRecDepth 20000 in
set_option maxHeartbeats 4000000 in
theorem taken_any (b : Nat) (rv : Value) (bad : Bool) (r : List Int) (w : World) (hb : w.heap[b]? = some (.cells (List.toArray [rv, .bool bad]) 139)) (h : Rd w rv 1 (ints .u8 r)) (ho : FE.off b (.sl rv 1 (ints .u8 r))) (hr : r.length ≤ 140737488352000) (hB : Byt r) : Calls Try.prog 113 #[.agg (List.toArray [.pointer (some ⟨b, 0, none⟩)]), .func (.func 114) #[] #[]] w (Post (ι := Bool × List Int × Value × List (List Int) × Value) w [b] (fun x => Rr.Und rv r x.2.2.1 x.2.1 ∧ Rt.TEnd false bad r x.1 x.2.1 x.2.2.2.1) (fun x => x.2.2.2.2) (fun x => [(0, .blk (b) (.cells ([x.2.2.1, .bool (x.1)]).toArray 139)), (1, .own (x.2.2.2.2) 55 32 (flat (x.2.2.2.1)))])) := by
  refine calls_at (vs := [.agg (List.toArray [.pointer (some ⟨b, 0, none⟩)]), .func (.func 114) #[] #[]]) (X := [b]) (H := [(0, .blk (b) (.cells ([rv, .bool (bad)]).toArray 139))]) (F := [(1, .sl rv 1 (ints .u8 r))]) 26 Try.func113 rfl rfl rfl ((Sat.blkX 0 hb).readb (f := .sl rv 1 (ints .u8 r)) 1 h ho) ?_
  refine cd_seq ?_
  refine cd_region ?_
  refine st_box (h := 2) rfl rfl rfl rfl (fun b2 => ?_)
  refine st (ev_assign rfl) rfl rfl rfl ?_
  refine at_own_nil 4 55 32 ?_
  refine at_heq (i := 4) (v' := .own (.slice none 0 0) 55 32 (flat [])) rfl rfl ?_
  have hu4 := H32.nil
  refine op_nil ?_
  refine ax_then ?_
  refine At.regs (L' := [(1, _), (2, _), (4, _)]) (.cons rfl (.cons rfl (.cons rfl (.nil _)))) ?_
  refine cd_seq ?_
  refine cd_region ?_
  refine st (ev_assign rfl) rfl rfl rfl ?_
  refine at_own_nil 5 55 32 ?_
  refine at_heq (i := 5) (v' := .own (.slice none 0 0) 55 32 (flat [])) rfl rfl ?_
  have hu5 := H32.nil
  refine op_nil ?_
  refine ax_then ?_
  refine At.regs (L' := [(1, _), (2, _), (4, _), (5, _)]) (.cons rfl (.cons rfl (.cons rfl (.cons rfl (.nil _))))) ?_
  refine cd_seq ?_
  refine cd_seq ?_
  refine at_freeze_blk (h := 2) (H' := [(0, _), (5, _)]) 5 rfl (.cons rfl (.cons rfl (.nil _))) rfl ?_
  refine cd_region ?_
  refine st (ev_fieldAddr (b := _) Try.underlying117 (f := _) rfl ty107 (by decide) rfl) rfl rfl rfl ?_
  refine st (ld_mem1 (h := 5) ty107 rfl rfl rfl (Nat.zero_add _).symm rfl) rfl rfl rfl ?_
  refine st_call has51 rfl (fun w1 sw => rn 0 (rnum_g b rv bad r w1 (sw.blk_eq (h := 0) rfl) (sw.sl_rd (h := 1) rfl) (sw.off 1 _ 0 _ rfl rfl _ (by simp [Ent.ids])) hr)) (mod_blk rfl) rfl rfl (fun x9 hx9 => ?_)
  refine at_fmap (h := 1) 1 rfl (fun w1 hh => hx9.rd w1 hh) hx9.blk hx9.nil ?_
  have hnr := Rr.nVal_rng r
  refine st (ev_assign rfl) rfl rfl rfl ?_
  refine op_nil ?_
  refine ax_then ?_
  refine At.regs (L' := [(1, _), (2, _), (4, _), (5, _), (6, _)]) (.cons rfl (.cons rfl (.cons rfl (.cons rfl (.cons rfl (.nil _)))))) ?_
  refine cd_block ?_
  refine cd_loop (ι := Int × Bool × List Int × Value × List (List Int) × Value) (fun x => Rr.Und rv r x.2.2.2.1 x.2.2.1 ∧ Rt.TRel (bad || Rr.nBad r) (Rr.nRest r) (Rr.nVal r) x.1 x.2.1 x.2.2.1 x.2.2.2.2.1) (fun x => x.2.2.1.length + (if x.2.1 = true then 0 else 1))
      (fun x => [(1, .func (.func 114) #[] #[]), (2, .pointer (some ⟨b2, 0, none⟩)), (5, x.2.2.2.2.2), (6, .int .i64 x.1)])
      (fun x => [(0, .blk (b) (.cells ([x.2.2.2.1, .bool (x.2.1)]).toArray 139)), (5, .own (x.2.2.2.2.2) 55 32 (flat (x.2.2.2.2.1)))])
      (fun x => [(1, .sl x.2.2.2.1 1 (ints .u8 x.2.2.1)), (5, .mem b2 0 [.pointer (some ⟨b, 0, none⟩)])])
      (Rr.nVal r, (bad || Rr.nBad r), (Rr.nRest r), x9, [], .slice none 0 0) (⟨hx9, Rt.TRel.init _ _ hnr.1⟩) (.cons rfl (.cons rfl (.cons rfl (.cons rfl (.nil _))))) (.cons rfl (.cons rfl (.nil _))) (.cons rfl (.cons rfl (.nil _))) (fun x hi => ?_)
  obtain ⟨n, bd, rc, v, hs, u⟩ := x
  dsimp only at hi ⊢
  have hti := hi.2
  have hul := hi.1.len
  have hl2 := hti.len2
  have hnl := Rr.nRest_len r
  have hcn := hti.cnt
  have hpo := hti.pos
  refine cd_seq ?_
  refine cd_seq ?_
  refine cd_region ?_
  refine st (ev_move rfl) rfl rfl rfl ?_
  refine st (ev_gtr rfl rfl) rfl rfl rfl ?_
  refine st (ev_move rfl) rfl rfl rfl ?_
  refine at_split_if (i := 12) rfl (fun hg12 => ?_) (fun hg12 => ?_)
  ·
    refine st (ev_fieldAddr (b := _) Try.underlying117 (f := _) rfl ty107 (by decide) rfl) rfl rfl rfl ?_
    refine st (ld_mem1 (h := 5) ty107 rfl rfl rfl (Nat.zero_add _).symm rfl) rfl rfl rfl ?_
    refine st_callv has82 rfl (fun w1 sw => rgood_any b v bd w1 (lies_blk (sw.blk_eq (h := 0) rfl))) rfl rfl ?_
    refine st (ev_pick_t rfl rfl) rfl rfl rfl ?_
    refine op_nil ?_
    refine ax_then ?_
    refine At.regs (L' := [(1, _), (2, _), (5, _), (6, _), (10, _), (11, _), (12, _), (13, _), (14, _), (15, _), (16, _)]) (.cons rfl (.cons rfl (.cons rfl (.cons rfl (.cons rfl (.cons rfl (.cons rfl (.cons rfl (.cons rfl (.cons rfl (.cons rfl (.nil _)))))))))))) ?_
    refine cd_cond rfl (fun hc16 => ?_) (fun hc16 => ?_)
    ·
      have hbd : bd = false := by revert hc16; cases bd <;> simp
      refine cd_skip ?_
      refine ax_then ?_
      refine At.regs (L' := [(1, _), (2, _), (5, _), (6, _), (10, _), (11, _), (12, _), (13, _), (14, _), (15, _), (16, _)]) (.cons rfl (.cons rfl (.cons rfl (.cons rfl (.cons rfl (.cons rfl (.cons rfl (.cons rfl (.cons rfl (.cons rfl (.cons rfl (.nil _)))))))))))) ?_
      refine cd_seq ?_
      refine cd_block ?_
      refine cd_region ?_
      refine st (ev_move rfl) rfl rfl rfl ?_
      refine st (ev_move rfl) rfl rfl rfl ?_
      refine st (ld_mem_all (h := 5) ty117 rfl rfl rfl rfl) rfl rfl rfl ?_
      refine st_call_fn has114 rfl rfl rfl (fun w1 sw => rn 0 (whash_any b v bd rc w1 (sw.blk_eq (h := 0) rfl) (sw.sl_rd (h := 1) rfl) (sw.off 1 _ 0 _ rfl rfl _ (by simp [Ent.ids])) (by omega))) (mod_blk rfl) rfl rfl (fun x22 hx22 => ?_)
      refine at_fmap (h := 1) 1 rfl (fun w1 hh => hx22.rd w1 hh) hx22.blk hx22.nil ?_
      have hho := Ky.hashOf_len rc
      refine st_bsh1 (h := 23) Try.underlying22 ty55 rfl (by assumption) rfl rfl (fun b23 hu23 => ?_)
      refine st_appendh (h := 5) Try.underlying22 Try.underlying22 ty55 rfl rfl rfl rfl (fun w1 sw => sw.own_rd (h := 23) rfl) hti.h32 hu23 (by simp only [List.length_cons, List.length_nil]; omega) (by decide) rfl rfl (fun v24 hu24 => ?_)
      refine st (ev_assign rfl) rfl rfl rfl ?_
      refine op_nil ?_
      refine ax_block ?_
      refine ax_then ?_
      refine At.regs (L' := [(1, _), (2, _), (5, _), (6, _), (10, _), (11, _), (12, _), (13, _), (14, _), (15, _), (16, _), (19, _), (20, _), (21, _), (22, _), (23, _), (24, _)]) (.cons rfl (.cons rfl (.cons rfl (.cons rfl (.cons rfl (.cons rfl (.cons rfl (.cons rfl (.cons rfl (.cons rfl (.cons rfl (.cons rfl (.cons rfl (.cons rfl (.cons rfl (.cons rfl (.cons rfl (.nil _)))))))))))))))))) ?_
      refine cd_region ?_
      refine st (ev_move rfl) rfl rfl rfl ?_
      refine st (ev_sub64 rfl rfl (by omega) (by omega)) rfl rfl rfl ?_
      refine st (ev_assign rfl) rfl rfl rfl ?_
      refine op_nil ?_
      exact at_again ((n - 1, (bd || decide (rc.length < 32)), Ky.rawRest rc, x22, hs ++ [Ky.hashOf rc], v24)) (⟨hi.1.trans hx22, hti.step (by omega) hbd⟩) (Rt.meas_lt hbd) (.cons rfl (.cons rfl (.cons rfl (.cons rfl (.nil _))))) (.cons rfl (.cons rfl (.nil _))) (.cons rfl (.cons rfl (.nil _)))
    ·
      have hend : n ≤ 0 ∨ bd = true ∨ (false = true ∧ hs.length = 5) := .inr (.inl (by revert hc16; cases bd <;> simp))
      refine cd_exit ?_
      refine ax_then_exit ?_
      refine ax_then_exit ?_
      refine ax_block_hit ?_
      refine ax_then ?_
      refine At.regs (L' := [(5, _)]) (.cons rfl (.nil _)) ?_
      refine cd_seq ?_
      refine cd_region ?_
      refine st (ev_move rfl) rfl rfl rfl ?_
      refine st (ev_assign rfl) rfl rfl rfl ?_
      refine op_nil ?_
      refine ax_then ?_
      refine At.regs (L' := [(4, _)]) (.cons rfl (.nil _)) ?_
      refine cd_ret ?_
      refine rt_tmp (.inl rfl) Try.results113 rfl ?_
      exact fun w1 sw => ⟨(bd, rc, v, hs, u), ⟨hi.1, Rt.tend hB hti hend (fun hh => by cases hh)⟩, rfl, (sw.gives (N := [(0, _), (5, _)]) (.cons rfl (.cons rfl (.nil _)))).rn2 (by decide) 0 1⟩
  ·
    have hend : n ≤ 0 ∨ bd = true ∨ (false = true ∧ hs.length = 5) := .inl (by omega)
    refine st_skip rfl rfl rfl ?_
    refine st_skip rfl rfl rfl ?_
    refine st_skip rfl rfl rfl ?_
    refine st (ev_pick_f rfl rfl) rfl rfl rfl ?_
    refine op_nil ?_
    refine ax_then ?_
    refine At.regs (L' := [(1, _), (2, _), (5, _), (6, _), (10, _), (11, _), (12, _), (13, _), (14, _), (15, _), (16, _)]) (.cons rfl (.cons rfl (.cons rfl (.cons rfl (.cons rfl (.cons rfl (.cons rfl (.cons rfl (.cons rfl (.cons rfl (.cons rfl (.nil _)))))))))))) ?_
    refine cd_false rfl ?_
    refine cd_exit ?_
    refine ax_then_exit ?_
    refine ax_then_exit ?_
    refine ax_block_hit ?_
    refine ax_then ?_
    refine At.regs (L' := [(5, _)]) (.cons rfl (.nil _)) ?_
    refine cd_seq ?_
    refine cd_region ?_
    refine st (ev_move rfl) rfl rfl rfl ?_
    refine st (ev_assign rfl) rfl rfl rfl ?_
    refine op_nil ?_
    refine ax_then ?_
    refine At.regs (L' := [(4, _)]) (.cons rfl (.nil _)) ?_
    refine cd_ret ?_
    refine rt_tmp (.inl rfl) Try.results113 rfl ?_
    exact fun w1 sw => ⟨(bd, rc, v, hs, u), ⟨hi.1, Rt.tend hB hti hend (fun hh => by cases hh)⟩, rfl, (sw.gives (N := [(0, _), (5, _)]) (.cons rfl (.cons rfl (.nil _)))).rn2 (by decide) 0 1⟩
set_option maxRecDepth 20000 in
set_option maxHeartbeats 4000000 in
theorem wkeys_any (b : Nat) (rv : Value) (bad : Bool) (r : List Int) (w : World) (hb : w.heap[b]? = some (.cells (List.toArray [rv, .bool bad]) 139)) (h : Rd w rv 1 (ints .u8 r)) (ho : FE.off b (.sl rv 1 (ints .u8 r))) (hr : r.length ≤ 140737488352000) (hB : Byt r) : Calls Try.prog 85 #[.agg (List.toArray [.pointer (some ⟨b, 0, none⟩)])] w (Post (ι := Bool × List Int × Value × Rt.KD × Value) w [b] (fun x => Rr.Und rv r x.2.2.1 x.2.1 ∧ Rt.KRel false bad r x.2.2.2.1 x.1 x.2.1) (fun x => .agg (List.toArray [x.2.2.2.2, .int .i64 x.2.2.2.1.need])) (fun x => [(0, .blk (b) (.cells ([x.2.2.1, .bool (x.1)]).toArray 139)), (1, .own (x.2.2.2.2) 55 32 (flat (x.2.2.2.1.ks)))])) := by
  refine calls_at (vs := [.agg (List.toArray [.pointer (some ⟨b, 0, none⟩)])]) (X := [b]) (H := [(0, .blk (b) (.cells ([rv, .bool (bad)]).toArray 139))]) (F := [(1, .sl rv 1 (ints .u8 r))]) 9 Try.func85 rfl rfl rfl ((Sat.blkX 0 hb).readb (f := .sl rv 1 (ints .u8 r)) 1 h ho) ?_
  refine cd_seq ?_
  refine cd_region ?_
  refine st_box (h := 1) rfl rfl rfl rfl (fun b1 => ?_)
  refine st_alloc (h := 2) ty24 rfl rfl rfl (fun b2 => ?_)
  refine op_nil ?_
  refine ax_then ?_
  refine At.regs (L' := [(1, _), (2, _)]) (.cons rfl (.cons rfl (.nil _))) ?_
  refine cd_seq ?_
  refine at_freeze_blk (h := 1) (H' := [(0, _), (2, _)]) 5 rfl (.cons rfl (.cons rfl (.nil _))) rfl ?_
  refine cd_mix hmix ?_
  refine mx (i := 0) rfl (by decide +kernel) (by decide +kernel) (by decide +kernel) rfl (fun w0 => ld_mem_all (h := 5) ty117 rfl rfl rfl rfl) rfl rfl (Sub.refl _) ?_
  refine mx (i := 2) rfl (by decide +kernel) (by decide +kernel) (by decide +kernel) rfl (fun w0 => ev_fieldAddr (b := _) Try.underlying117 (f := _) rfl ty107 (by decide) rfl) rfl rfl (Sub.refl _) ?_
  refine mx (i := 3) rfl (by decide +kernel) (by decide +kernel) (by decide +kernel) rfl (fun w0 => ld_mem1 (h := 5) ty107 rfl rfl rfl (Nat.zero_add _).symm rfl) rfl rfl (Sub.refl _) ?_
  refine mx_one (i := 1) (by decide +kernel) (Sub.refl _) ?_
  refine wo (i := 1) rfl ?_
  refine st_call has113 rfl (fun w1 sw => rn2 0 104 (taken_any b rv bad r w1 (sw.blk_eq (h := 0) rfl) (sw.sl_rd (h := 1) rfl) (sw.off 1 _ 0 _ rfl rfl _ (by simp [Ent.ids])) hr hB)) (mod_blk2 rfl) rfl rfl (fun x4 hx4 => ?_)
  obtain ⟨bd, rc, v, hs, u⟩ := x4
  dsimp only at hx4 ⊢
  have hul := hx4.1.len
  refine at_own_shape (h := 104) rfl (fun hs104 => ?_)
  refine op_nil ?_
  refine ax_then ?_
  refine mx_one (i := 4) (by decide +kernel) (Sub.refl _) ?_
  refine wo (i := 4) rfl ?_
  refine st_call has51 rfl (fun w1 sw => rn 0 (rnum_g b v bd rc w1 (sw.blk_eq (h := 0) rfl) (hx4.1.rd _ (sw.sl_rd (h := 1) rfl)) ((sw.off 1 _ 0 _ rfl rfl _ (by simp [Ent.ids])).elim (fun h0 => .inl (hx4.1.nil h0)) (fun h0 => .inr (fun hb => h0 (hx4.1.blk _ hb)))) (by omega))) (mod_blk rfl) rfl rfl (fun x7 hx7 => ?_)
  refine op_nil ?_
  refine ax_then ?_
  refine mx (i := 5) rfl (by decide +kernel) (by decide +kernel) (by decide +kernel) rfl (fun w0 => ev_build_struct ty24 rfl pl24 rfl ((fill_put (i := 0) (off := 0) (n := 1) (vs := [u]) rfl hs104.1 rfl (Nat.le_of_ble_eq_true rfl)).trans ((fill_put (i := 1) (off := 1) (n := 1) (vs := [.int .i64 (Rr.nVal rc)]) rfl rfl rfl (Nat.le_of_ble_eq_true rfl)).trans fill_nil))) rfl rfl (Sub.refl _) ?_
  refine at_eq (i := 8) (v' := .agg (List.toArray [u, .int .i64 (Rr.nVal rc)])) rfl rfl ?_
  refine mx_one (i := 6) (by decide +kernel) (Sub.refl _) ?_
  refine wo (i := 6) rfl ?_
  refine st_store_all 2 ty24 rfl rfl rfl rfl rfl (by intro u0 hu0; simp at hu0; rcases hu0 with rfl | rfl; exact hs104.2; rfl) rfl rfl ?_
  refine op_nil ?_
  refine ax_then ?_
  refine mx_done (by decide +kernel) (Sub.refl _) ?_
  refine ax_then ?_
  refine At.regs (L' := [(2, _)]) (.cons rfl (.nil _)) ?_
  refine cd_ret ?_
  refine rt_cell (h0 := 2) (.inl rfl) Try.results85 ty24 rfl rfl rfl (by first | omega | (simp only [List.length_append, List.length_cons, List.length_nil, List.length_set, List.length_replicate, List.length_take, List.length_drop, ints_length, wr_length, sha_len, node_len, recov_len, Ky.named_len, Ky.keyPub_len, Ky.hashOf_len] <;> omega) | rfl) ?_
  exact fun w1 sw => ⟨((bd || Rr.nBad rc), Rr.nRest rc, x7, ⟨hs, Rr.nVal rc⟩, u), ⟨hx4.1.trans hx7, Rt.krel (hx4.1.byt hB) hx4.2⟩, rfl, (sw.gives (N := [(0, _), (104, _)]) (.cons rfl (.cons rfl (.nil _)))).rn2 (by decide) 0 1⟩
end Go.Proofs.Ytgfnmolbagilmaa

namespace Go.Proofs.Ytgfnmolbagilmaa.Fw
open Go Go.RowKit Go.Proofs.Ytgfnmolbagilmaa
set_option linter.unusedSimpArgs false
set_option linter.unusedVariables false
theorem strOf_list (l : List Int) : (strOf l).toList = l.map fun x => UInt8.ofNat x.toNat := by
  rw [ByteArray.toList_eq]
  rfl
theorem strOf_inj : ∀ {l m : List Int}, Sha.Byt l → Sha.Byt m → (strOf l).toList = (strOf m).toList → l = m
  | [], [], _, _, _ => rfl
  | [], _ :: _, _, _, h => by rw [strOf_list, strOf_list] at h; simp at h
  | _ :: _, [], _, _, h => by rw [strOf_list, strOf_list] at h; simp at h
  | x :: l, y :: m, hl, hm, h => by
    rw [strOf_list, strOf_list, List.map_cons, List.map_cons, List.cons.injEq] at h
    have hx := hl x (by simp)
    have hy := hm y (by simp)
    have e : x = y := by
      have h1 := congrArg UInt8.toNat h.1
      simp at h1
      omega
    have e2 : l = m := strOf_inj (fun c hc => hl c (by simp [hc])) (fun c hc => hm c (by simp [hc])) (by rw [strOf_list, strOf_list]; exact h.2)
    rw [e, e2]
section
variable {P : Program} {E : Env} {L : List (Nat × Value)} {H : List (Nat × Ent)} {F : List (Nat × FE)}
variable {dst : Option Tmp} {ty : TypeId} {pos : String} {af : Array Edge} {gd : Option (Nat × Bool)}
theorem str_beq {l m : List Int} (hl : Sha.Byt l) (hm : Sha.Byt m) : ((strOf l).toList == (strOf m).toList) = decide (l = m) := by
  rw [Bool.eq_iff_iff, decide_eq_true_eq, beq_iff_eq]
  exact ⟨strOf_inj hl hm, fun h => by rw [h]⟩
theorem ev_eql_strb {T T' : Nat} {x y : Operand} {l m : List Int} (hx : ev L x = some (.string (strOf l))) (hy : ev L y = some (.string (strOf m))) (hl : Sha.Byt l) (hm : Sha.Byt m) : Ev P ⟨dst, .binOp .eql T x y T', ty, pos, af, gd⟩ E L H F (.bool (decide (l = m))) :=
  fun a w fa _ => by simp [execOp, fa.ev hx, fa.ev hy, eqGuard, binOp, Op.stringOp, str_beq hl hm]
end
end Go.Proofs.Ytgfnmolbagilmaa.Fw
