/- The statement's proof, part 4: what its walks and its plain laws need. -/
import Derived.Test.YteedclmcgifmpaaRows
import Derived.Tactics
import Derived.Deep.Quiet
import Derived.StillTail
import Derived.Laws.World
import Derived.Laws.Sem
import Derived.Laws.Entries
import Derived.Below
import Derived.Deep.LoopGhost
import Derived.Laws.BytesString
import Derived.Laws.IdiomStrings
import Derived.KernelRfl
import Derived.Carry
import Derived.OpenShut
import Derived.ProofKit
import Derived.ChangeSame
import Derived.HandedShaped
import Derived.SizedLaws
import Derived.Test.YteedclmcgifmpaaProg
import Derived.Test.YteedclmcgifmpaaXb3
namespace Go.Proofs.Yteedclmcgifmpaa
open Go Go.RowKit Fw
open Sha
open Ots
open Mk
set_option linter.unusedVariables false
set_option linter.unusedSimpArgs false
set_option maxRecDepth 20000 in
set_option maxHeartbeats 1000000 in
theorem encode_no (l : Int) (vc vp : Value) (cs ps : List (List Int)) (w : World) (hu : H32 cs) (hu' : H32 ps) (h : Rd w vc 32 (flat cs)) (h' : Rd w vp 32 (flat ps)) (his : ¬ Ky.isSig l cs ps) : Calls Try.prog 39 #[.agg (List.toArray [.int .i64 l, vc, vp])] w (PostV w (.tuple #[.slice none 0 0, .int .i64 1])) := by
  refine calls_at (vs := [.agg (List.toArray [.int .i64 l, vc, vp])]) (X := []) (H := []) (F := [(21, .sl (vp) 32 (flat (ps))), (20, .sl (vc) 32 (flat (cs)))]) 29 Try.func39 rfl rfl rfl ((Sat.rd0 20 h).more 21 h') ?_
  refine cd_seq ?_
  refine cd_region ?_
  refine st_box (h := 1) rfl rfl rfl rfl (fun b1 => ?_)
  refine st (ev_assign rfl) rfl rfl rfl ?_
  refine at_own_nil 2 5 1 ?_
  refine at_heq (i := 2) (v' := .own (.slice none 0 0) 5 1 (ints .u8 [])) rfl rfl ?_
  refine st (ev_assign rfl) rfl rfl rfl ?_
  refine op_nil ?_
  refine ax_then ?_
  refine At.regs (L' := [(1, _), (2, _), (3, _)]) (.cons rfl (.cons rfl (.cons rfl (.nil _)))) ?_
  refine cd_seq ?_
  refine cd_seq ?_
  refine cd_region ?_
  refine st (ld_blk_all (h := 1) ty42 rfl rfl rfl (by first | omega | (simp only [List.length_append, List.length_cons, List.length_nil, List.length_set, List.length_replicate, List.length_take, List.length_drop, ints_length, wr_length, sha_len, node_len, recov_len, Ky.named_len, Ky.keyPub_len, Ky.hashOf_len] <;> omega) | rfl)) rfl rfl rfl ?_
  refine st_callv has37 rfl (fun w1 sw => isSig_any l vc vp cs ps w1 hu hu' (sw.sl_rd (h := 20) rfl) (sw.sl_rd (h := 21) rfl)) rfl rfl ?_
  refine st (ev_not_if rfl) rfl rfl rfl ?_
  refine op_nil ?_
  refine ax_then ?_
  refine At.regs (L' := [(1, _), (2, _), (3, _), (9, _)]) (.cons rfl (.cons rfl (.cons rfl (.cons rfl (.nil _))))) ?_
  refine cd_if_t rfl (his) ?_
  refine cd_seq ?_
  refine cd_region ?_
  refine st (ev_assign rfl) rfl rfl rfl ?_
  refine at_own_nil 2 5 1 ?_
  refine at_heq (i := 2) (v' := .own (.slice none 0 0) 5 1 (ints .u8 [])) rfl rfl ?_
  refine st (ev_assign rfl) rfl rfl rfl ?_
  refine op_nil ?_
  refine ax_then ?_
  refine At.regs (L' := [(1, _), (2, _), (3, _)]) (.cons rfl (.cons rfl (.cons rfl (.nil _)))) ?_
  refine cd_ret ?_
  refine ax_then_ret ?_
  refine rt_tmp2 (.inl rfl) Try.results39 rfl rfl ?_
  exact fun w1 sw => ⟨rfl, sw.gives (.nil _)⟩
theorem encodeG_any (l : Int) (vc vp : Value) (cs ps : List (List Int)) (w : World) (hu : H32 cs) (hu' : H32 ps) (h : Rd w vc 32 (flat cs)) (h' : Rd w vp 32 (flat ps)) : Calls Try.prog 39 #[.agg (List.toArray [.int .i64 l, vc, vp])] w (Post (ι := Value) w [] (fun _ => True) (fun x => .tuple #[x, .int .i64 (Kb.eErr l cs ps)]) (fun x => [(0, .own (x) 5 1 (ints .u8 (Kb.eOut l cs ps)))])) := by
  by_cases his : Ky.isSig l cs ps
  · refine (encode_any l vc vp cs ps w his hu hu' h h').mono ?_
    rintro e w' ⟨x, _, rfl, g⟩
    refine ⟨x, trivial, ?_, ?_⟩
    · simp only [Kb.eErr, if_pos his]
    · simp only [Kb.eOut, if_pos his]
      exact g
  · refine (encode_no l vc vp cs ps w hu hu' h h' his).mono ?_
    rintro e w' ⟨rfl, g⟩
    refine ⟨.slice none 0 0, trivial, ?_, ?_⟩
    · simp only [Kb.eErr, if_neg his]
    · simp only [Kb.eOut, if_neg his]
      exact g.nil1
set_option maxRecDepth 20000 in
set_option maxHeartbeats 1000000 in
theorem qencode_no (l : Int) (vc vp : Value) (cs ps : List (List Int)) (w : World) (hu : H32 cs) (hu' : H32 ps) (h : Rd w vc 32 (flat cs)) (h' : Rd w vp 32 (flat ps)) (his : ¬ Ky.isSig l cs ps) : Calls Try.prog 40 #[.agg (List.toArray [.int .i64 l, vc, vp])] w (PostV w (.tuple #[.slice none 0 0, .int .i64 1])) := by
  refine calls_at (vs := [.agg (List.toArray [.int .i64 l, vc, vp])]) (X := []) (H := []) (F := [(21, .sl (vp) 32 (flat (ps))), (20, .sl (vc) 32 (flat (cs)))]) 42 Try.func40 rfl rfl rfl ((Sat.rd0 20 h).more 21 h') ?_
  refine cd_seq ?_
  refine cd_region ?_
  refine st_box (h := 1) rfl rfl rfl rfl (fun b1 => ?_)
  refine st (ev_assign rfl) rfl rfl rfl ?_
  refine at_own_nil 2 5 1 ?_
  refine at_heq (i := 2) (v' := .own (.slice none 0 0) 5 1 (ints .u8 [])) rfl rfl ?_
  refine st (ev_assign rfl) rfl rfl rfl ?_
  refine op_nil ?_
  refine ax_then ?_
  refine At.regs (L' := [(1, _), (2, _), (3, _)]) (.cons rfl (.cons rfl (.cons rfl (.nil _)))) ?_
  refine cd_seq ?_
  refine cd_seq ?_
  refine cd_region ?_
  refine st (ld_blk_all (h := 1) ty42 rfl rfl rfl (by first | omega | (simp only [List.length_append, List.length_cons, List.length_nil, List.length_set, List.length_replicate, List.length_take, List.length_drop, ints_length, wr_length, sha_len, node_len, recov_len, Ky.named_len, Ky.keyPub_len, Ky.hashOf_len] <;> omega) | rfl)) rfl rfl rfl ?_
  refine st_callv has34 rfl (fun w1 sw => risSig_any l vc vp cs ps w1 hu hu' (sw.sl_rd (h := 20) rfl) (sw.sl_rd (h := 21) rfl)) rfl rfl ?_
  refine st (ev_not_if rfl) rfl rfl rfl ?_
  refine op_nil ?_
  refine ax_then ?_
  refine At.regs (L' := [(1, _), (2, _), (3, _), (9, _)]) (.cons rfl (.cons rfl (.cons rfl (.cons rfl (.nil _))))) ?_
  refine cd_if_t rfl (his) ?_
  refine cd_seq ?_
  refine cd_region ?_
  refine st (ev_assign rfl) rfl rfl rfl ?_
  refine at_own_nil 2 5 1 ?_
  refine at_heq (i := 2) (v' := .own (.slice none 0 0) 5 1 (ints .u8 [])) rfl rfl ?_
  refine st (ev_assign rfl) rfl rfl rfl ?_
  refine op_nil ?_
  refine ax_then ?_
  refine At.regs (L' := [(1, _), (2, _), (3, _)]) (.cons rfl (.cons rfl (.cons rfl (.nil _)))) ?_
  refine cd_ret ?_
  refine ax_then_ret ?_
  refine rt_tmp2 (.inl rfl) Try.results40 rfl rfl ?_
  exact fun w1 sw => ⟨rfl, sw.gives (.nil _)⟩
def encQ (l : Int) (cs ps : List (List Int)) (i j : Nat) : List Int := [l] ++ (cs.take i).flatten ++ (ps.take j).flatten
theorem flat_take {hs : List (List Int)} {i : Nat} (hi : i < hs.length) : (hs.take (i + 1)).flatten = (hs.take i).flatten ++ hs.getD i [] := by
  rw [List.take_succ_eq_append_getElem hi, List.flatten_append, List.getD_eq_getElem?_getD, List.getElem?_eq_getElem hi]
  simp
theorem flat_tlen {hs : List (List Int)} (hu : H32 hs) : ∀ i, i ≤ hs.length → (hs.take i).flatten.length = 32 * i
  | 0, _ => by simp
  | i + 1, h => by rw [flat_take (by omega), List.length_append, flat_tlen hu i (by omega), hu.get (by omega)]; omega
theorem encQ_len (l : Int) {cs ps : List (List Int)} (hu : H32 cs) (hu' : H32 ps) {i j : Nat} (hi : i ≤ cs.length) (hj : j ≤ ps.length) : (encQ l cs ps i j).length = 1 + 32 * (i + j) := by
  rw [encQ, List.length_append, List.length_append, flat_tlen hu i hi, flat_tlen hu' j hj]
  simp
  omega
theorem encQ_one (l : Int) {cs ps : List (List Int)} {i : Nat} (hi : i < cs.length) : encQ l cs ps i 0 ++ cs.getD i [] = encQ l cs ps (i + 1) 0 := by
  rw [encQ, encQ, flat_take hi]; simp
theorem encQ_two (l : Int) {cs ps : List (List Int)} {j : Nat} (hj : j < ps.length) : encQ l cs ps cs.length j ++ ps.getD j [] = encQ l cs ps cs.length (j + 1) := by
  rw [encQ, encQ, flat_take hj]; simp
theorem encQ_all (l : Int) (cs ps : List (List Int)) : encQ l cs ps cs.length ps.length = Ky.enc l cs ps := by
  rw [encQ, Ky.enc, List.take_length, List.take_length]; simp
theorem num_small {l : Int} (h0 : 0 ≤ l) (h1 : l < 16) : Rr.num l = [l] := by
  have e := Rr.clampN_id h0 (by omega : l ≤ 4611686018427387904)
  rw [Rr.num, Rr.encN_lt (by omega), e]
set_option maxRecDepth 20000 in
set_option maxHeartbeats 4000000 in
theorem qencode_ok (l : Int) (vc vp : Value) (cs ps : List (List Int)) (w : World) (his : Ky.isSig l cs ps) (hu : H32 cs) (hu' : H32 ps) (h : Rd w vc 32 (flat cs)) (h' : Rd w vp 32 (flat ps)) : Calls Try.prog 40 #[.agg (List.toArray [.int .i64 l, vc, vp])] w (Post (ι := Value) w [] (fun _ => True) (fun x => .tuple #[x, .int .i64 0]) (fun x => [(0, .own (x) 5 1 (ints .u8 (Ky.enc l cs ps)))])) := by
  obtain ⟨i1, i2, i3, i4⟩ := id his
  refine calls_at (vs := [.agg (List.toArray [.int .i64 l, vc, vp])]) (X := []) (H := []) (F := [(21, .sl (vp) 32 (flat (ps))), (20, .sl (vc) 32 (flat (cs)))]) 42 Try.func40 rfl rfl rfl ((Sat.rd0 20 h).more 21 h') ?_
  refine cd_seq ?_
  refine cd_region ?_
  refine st_box (h := 1) rfl rfl rfl rfl (fun b1 => ?_)
  refine st (ev_assign rfl) rfl rfl rfl ?_
  refine at_own_nil 2 5 1 ?_
  refine at_heq (i := 2) (v' := .own (.slice none 0 0) 5 1 (ints .u8 [])) rfl rfl ?_
  refine st (ev_assign rfl) rfl rfl rfl ?_
  refine op_nil ?_
  refine ax_then ?_
  refine At.regs (L' := [(1, _), (2, _), (3, _)]) (.cons rfl (.cons rfl (.cons rfl (.nil _)))) ?_
  refine cd_seq ?_
  refine cd_seq ?_
  refine cd_region ?_
  refine st (ld_blk_all (h := 1) ty42 rfl rfl rfl (by first | omega | (simp only [List.length_append, List.length_cons, List.length_nil, List.length_set, List.length_replicate, List.length_take, List.length_drop, ints_length, wr_length, sha_len, node_len, recov_len, Ky.named_len, Ky.keyPub_len, Ky.hashOf_len] <;> omega) | rfl)) rfl rfl rfl ?_
  refine st_callv has34 rfl (fun w1 sw => risSig_any l vc vp cs ps w1 hu hu' (sw.sl_rd (h := 20) rfl) (sw.sl_rd (h := 21) rfl)) rfl rfl ?_
  refine st (ev_not_if rfl) rfl rfl rfl ?_
  refine op_nil ?_
  refine ax_then ?_
  refine At.regs (L' := [(1, _), (2, _), (3, _), (9, _)]) (.cons rfl (.cons rfl (.cons rfl (.cons rfl (.nil _))))) ?_
  refine cd_if_f rfl (fun h => h his) ?_
  refine cd_skip ?_
  refine ax_then ?_
  refine At.regs (L' := [(1, _), (2, _), (3, _)]) (.cons rfl (.cons rfl (.cons rfl (.nil _)))) ?_
  refine cd_seq ?_
  refine cd_region ?_
  refine st (ev_fieldAddr (b := _) Try.underlying42 (f := _) rfl ty3 (by decide) rfl) rfl rfl rfl ?_
  refine st (ld_blk1 (h := 1) ty3 rfl rfl rfl rfl) rfl rfl rfl ?_
  refine st_call has65 rfl (fun w1 sw => rn 12 (qnum_any l w1)) nil_all rfl rfl (fun v12 _ => ?_)
  refine at_heq (i := 12) (v' := .own (v12) 5 1 (ints .u8 (encQ l cs ps 0 0))) rfl (by rw [num_small i1 i2]; simp [encQ]) ?_
  refine st (ev_assign rfl) rfl rfl rfl ?_
  refine op_nil ?_
  refine ax_then ?_
  refine At.regs (L' := [(1, _), (2, _), (3, _), (4, _)]) (.cons rfl (.cons rfl (.cons rfl (.cons rfl (.nil _))))) ?_
  refine cd_seq ?_
  refine cd_seq ?_
  refine cd_region ?_
  refine st (ev_assign rfl) rfl rfl rfl ?_
  refine op_nil ?_
  refine ax_then ?_
  refine At.regs (L' := [(1, _), (2, _), (3, _), (4, _), (5, _)]) (.cons rfl (.cons rfl (.cons rfl (.cons rfl (.cons rfl (.nil _)))))) ?_
  refine cd_block ?_
  refine cd_loop (ι := Nat × Value) (fun x => x.1 ≤ cs.length) (fun x => cs.length - x.1)
      (fun x => [(1, .pointer (some ⟨b1, 0, none⟩)), (4, x.2), (5, .int .i64 (x.1 : Int))])
      (fun x => [(1, .blk (b1) (.cells ([.int .i64 l, vc, vp]).toArray 42)), (12, .own (x.2) 5 1 (ints .u8 (encQ l cs ps x.1 0)))])
      (fun x => [(20, .sl (vc) 32 (flat (cs))), (21, .sl (vp) 32 (flat (ps)))])
      (0, v12) (by omega) (.cons rfl (.cons rfl (.cons rfl (.nil _)))) (.cons rfl (.cons rfl (.nil _))) (.cons rfl (.cons rfl (.nil _))) (fun x hi => ?_)
  have hel := encQ_len l hu hu' hi (Nat.zero_le ps.length)
  refine cd_seq ?_
  refine cd_seq ?_
  refine cd_region ?_
  refine st (ev_move rfl) rfl rfl rfl ?_
  refine st (ev_fieldAddr (b := _) Try.underlying42 (f := _) rfl ty26 (by decide) rfl) rfl rfl rfl ?_
  refine st (ld_blk1 (h := 1) ty26 rfl rfl rfl rfl) rfl rfl rfl ?_
  refine st (ev_len_rdh (h := 20) Try.underlying26 rfl rfl (by assumption)) rfl rfl rfl ?_
  refine st (ev_lss rfl rfl) rfl rfl rfl ?_
  refine op_nil ?_
  refine ax_then ?_
  refine At.regs (L' := [(1, _), (4, _), (5, _), (13, _), (14, _), (15, _), (16, _), (17, _)]) (.cons rfl (.cons rfl (.cons rfl (.cons rfl (.cons rfl (.cons rfl (.cons rfl (.cons rfl (.nil _))))))))) ?_
  refine cd_if rfl (fun hc17 => ?_) (fun hc17 => ?_)
  ·
    have hlt : x.1 < cs.length := by omega
    have hg : (cs.getD x.1 []).length = 32 := hu.get hlt
    refine cd_skip ?_
    refine ax_then ?_
    refine At.regs (L' := [(1, _), (4, _), (5, _), (13, _), (14, _), (15, _), (16, _), (17, _)]) (.cons rfl (.cons rfl (.cons rfl (.cons rfl (.cons rfl (.cons rfl (.cons rfl (.cons rfl (.nil _))))))))) ?_
    refine cd_seq ?_
    refine cd_block ?_
    refine cd_region ?_
    refine st (ev_move rfl) rfl rfl rfl ?_
    refine st (ev_fieldAddr (b := _) Try.underlying42 (f := _) rfl ty26 (by decide) rfl) rfl rfl rfl ?_
    refine st (ld_blk1 (h := 1) ty26 rfl rfl rfl rfl) rfl rfl rfl ?_
    refine st (ev_move rfl) rfl rfl rfl ?_
    refine st (ev_indexAddr_rdh (h := 20) Try.underlying26 ty39 rfl rfl rfl (by assumption) (by omega) (by omega)) rfl rfl rfl ?_
    refine st (ev_arrAt Try.underlying39 ty5 rfl (fun w1 sw => sw.sl_rd (h := 20) rfl) (by rw [flat_len (by assumption)]; omega)) rfl rfl rfl ?_
    refine st_appendi (h := 12) (cs := cs.getD x.1 []) Try.underlying22 Try.underlying22 ty5 rfl rfl rfl rfl (fun w1 sw => (by have := rd_arrh (i := (x.1 : Int).toNat) (sw.sl_rd (h := 20) rfl) hu (by omega); rwa [Int.toNat_natCast] at this)) (by omega) (by decide) rfl rfl (fun v26 => ?_)
    refine st (ev_assign rfl) rfl rfl rfl ?_
    refine op_nil ?_
    refine ax_block ?_
    refine ax_then ?_
    refine At.regs (L' := [(1, _), (4, _), (5, _), (13, _), (14, _), (15, _), (16, _), (17, _), (20, _), (21, _), (22, _), (23, _), (24, _), (25, _), (26, _)]) (.cons rfl (.cons rfl (.cons rfl (.cons rfl (.cons rfl (.cons rfl (.cons rfl (.cons rfl (.cons rfl (.cons rfl (.cons rfl (.cons rfl (.cons rfl (.cons rfl (.cons rfl (.nil _)))))))))))))))) ?_
    refine cd_region ?_
    refine st (ev_move rfl) rfl rfl rfl ?_
    refine st (ev_add64 rfl rfl (by omega) (by omega)) rfl rfl rfl ?_
    refine st (ev_assign rfl) rfl rfl rfl ?_
    refine op_nil ?_
    refine ax_heq (i := 12) (v' := .own (v26) 5 1 (ints .u8 (encQ l cs ps (x.1 + 1) 0))) rfl (by rw [encQ_one l hlt]) ?_
    exact at_again ((x.1 + 1, v26)) (by show x.1 + 1 ≤ cs.length; omega) (by omega) (.cons rfl (.cons rfl (.cons rfl (.nil _)))) (.cons rfl (.cons rfl (.nil _))) (.cons rfl (.cons rfl (.nil _)))
  ·
    obtain ⟨i, u⟩ := x
    dsimp only at hi hc17 ⊢
    obtain rfl : i = cs.length := by omega
    refine cd_exit ?_
    refine ax_then_exit ?_
    refine ax_then_exit ?_
    refine ax_block_hit ?_
    refine ax_then ?_
    refine At.regs (L' := [(1, _), (4, _)]) (.cons rfl (.cons rfl (.nil _))) ?_
    refine cd_seq ?_
    refine cd_seq ?_
    refine cd_region ?_
    refine st (ev_assign rfl) rfl rfl rfl ?_
    refine op_nil ?_
    refine ax_then ?_
    refine At.regs (L' := [(1, _), (4, _), (6, _)]) (.cons rfl (.cons rfl (.cons rfl (.nil _)))) ?_
    refine cd_block ?_
    refine cd_loop (ι := Nat × Value) (fun y => y.1 ≤ ps.length) (fun y => ps.length - y.1)
        (fun y => [(1, .pointer (some ⟨b1, 0, none⟩)), (4, y.2), (6, .int .i64 (y.1 : Int))])
        (fun y => [(1, .blk (b1) (.cells ([.int .i64 l, vc, vp]).toArray 42)), (12, .own (y.2) 5 1 (ints .u8 (encQ l cs ps cs.length y.1)))])
        (fun y => [(20, .sl (vc) 32 (flat (cs))), (21, .sl (vp) 32 (flat (ps)))])
        (0, u) (by omega) (.cons rfl (.cons rfl (.cons rfl (.nil _)))) (.cons rfl (.cons rfl (.nil _))) (.cons rfl (.cons rfl (.nil _))) (fun y hi => ?_)
    have hel := encQ_len l hu hu' (Nat.le_refl cs.length) hi
    refine cd_seq ?_
    refine cd_seq ?_
    refine cd_region ?_
    refine st (ev_move rfl) rfl rfl rfl ?_
    refine st (ev_fieldAddr (b := _) Try.underlying42 (f := _) rfl ty26 (by decide) rfl) rfl rfl rfl ?_
    refine st (ld_blk1 (h := 1) ty26 rfl rfl rfl rfl) rfl rfl rfl ?_
    refine st (ev_len_rdh (h := 21) Try.underlying26 rfl rfl (by assumption)) rfl rfl rfl ?_
    refine st (ev_lss rfl rfl) rfl rfl rfl ?_
    refine op_nil ?_
    refine ax_then ?_
    refine At.regs (L' := [(1, _), (4, _), (6, _), (27, _), (28, _), (29, _), (30, _), (31, _)]) (.cons rfl (.cons rfl (.cons rfl (.cons rfl (.cons rfl (.cons rfl (.cons rfl (.cons rfl (.nil _))))))))) ?_
    refine cd_if rfl (fun hc31 => ?_) (fun hc31 => ?_)
    ·
      have hlt : y.1 < ps.length := by omega
      have hg : (ps.getD y.1 []).length = 32 := hu'.get hlt
      refine cd_skip ?_
      refine ax_then ?_
      refine At.regs (L' := [(1, _), (4, _), (6, _), (27, _), (28, _), (29, _), (30, _), (31, _)]) (.cons rfl (.cons rfl (.cons rfl (.cons rfl (.cons rfl (.cons rfl (.cons rfl (.cons rfl (.nil _))))))))) ?_
      refine cd_seq ?_
      refine cd_block ?_
      refine cd_region ?_
      refine st (ev_move rfl) rfl rfl rfl ?_
      refine st (ev_fieldAddr (b := _) Try.underlying42 (f := _) rfl ty26 (by decide) rfl) rfl rfl rfl ?_
      refine st (ld_blk1 (h := 1) ty26 rfl rfl rfl rfl) rfl rfl rfl ?_
      refine st (ev_move rfl) rfl rfl rfl ?_
      refine st (ev_indexAddr_rdh (h := 21) Try.underlying26 ty39 rfl rfl rfl (by assumption) (by omega) (by omega)) rfl rfl rfl ?_
      refine st (ev_arrAt Try.underlying39 ty5 rfl (fun w1 sw => sw.sl_rd (h := 21) rfl) (by rw [flat_len (by assumption)]; omega)) rfl rfl rfl ?_
      refine st_appendi (h := 12) (cs := ps.getD y.1 []) Try.underlying22 Try.underlying22 ty5 rfl rfl rfl rfl (fun w1 sw => (by have := rd_arrh (i := (y.1 : Int).toNat) (sw.sl_rd (h := 21) rfl) hu' (by omega); rwa [Int.toNat_natCast] at this)) (by omega) (by decide) rfl rfl (fun v40 => ?_)
      refine st (ev_assign rfl) rfl rfl rfl ?_
      refine op_nil ?_
      refine ax_block ?_
      refine ax_then ?_
      refine At.regs (L' := [(1, _), (4, _), (6, _), (27, _), (28, _), (29, _), (30, _), (31, _), (34, _), (35, _), (36, _), (37, _), (38, _), (39, _), (40, _)]) (.cons rfl (.cons rfl (.cons rfl (.cons rfl (.cons rfl (.cons rfl (.cons rfl (.cons rfl (.cons rfl (.cons rfl (.cons rfl (.cons rfl (.cons rfl (.cons rfl (.cons rfl (.nil _)))))))))))))))) ?_
      refine cd_region ?_
      refine st (ev_move rfl) rfl rfl rfl ?_
      refine st (ev_add64 rfl rfl (by omega) (by omega)) rfl rfl rfl ?_
      refine st (ev_assign rfl) rfl rfl rfl ?_
      refine op_nil ?_
      refine ax_heq (i := 12) (v' := .own (v40) 5 1 (ints .u8 (encQ l cs ps cs.length (y.1 + 1)))) rfl (by rw [encQ_two l hlt]) ?_
      exact at_again ((y.1 + 1, v40)) (by show y.1 + 1 ≤ ps.length; omega) (by omega) (.cons rfl (.cons rfl (.cons rfl (.nil _)))) (.cons rfl (.cons rfl (.nil _))) (.cons rfl (.cons rfl (.nil _)))
    ·
      obtain ⟨j, v⟩ := y
      dsimp only at hi hc31 ⊢
      obtain rfl : j = ps.length := by omega
      refine at_heq (i := 12) (v' := .own (v) 5 1 (ints .u8 (Ky.enc l cs ps))) rfl (by rw [encQ_all]) ?_
      refine cd_exit ?_
      refine ax_then_exit ?_
      refine ax_then_exit ?_
      refine ax_block_hit ?_
      refine ax_then ?_
      refine At.regs (L' := [(4, _)]) (.cons rfl (.nil _)) ?_
      refine cd_seq ?_
      refine cd_region ?_
      refine st (ev_move rfl) rfl rfl rfl ?_
      refine st (ev_assign rfl) rfl rfl rfl ?_
      refine st (ev_assign rfl) rfl rfl rfl ?_
      refine op_nil ?_
      refine ax_then ?_
      refine At.regs (L' := [(2, _), (3, _)]) (.cons rfl (.cons rfl (.nil _))) ?_
      refine cd_ret ?_
      refine rt_tmp2 (.inl rfl) Try.results40 rfl rfl ?_
      exact fun w1 sw => ⟨v, trivial, rfl, (sw.gives (N := [(12, _)]) (.cons rfl (.nil _))).rn 0⟩
theorem qencodeG_any (l : Int) (vc vp : Value) (cs ps : List (List Int)) (w : World) (hu : H32 cs) (hu' : H32 ps) (h : Rd w vc 32 (flat cs)) (h' : Rd w vp 32 (flat ps)) : Calls Try.prog 40 #[.agg (List.toArray [.int .i64 l, vc, vp])] w (Post (ι := Value) w [] (fun _ => True) (fun x => .tuple #[x, .int .i64 (Kb.eErr l cs ps)]) (fun x => [(0, .own (x) 5 1 (ints .u8 (Kb.eOut l cs ps)))])) := by
  by_cases his : Ky.isSig l cs ps
  · refine (qencode_ok l vc vp cs ps w his hu hu' h h').mono ?_
    rintro e w' ⟨x, _, rfl, g⟩
    refine ⟨x, trivial, ?_, ?_⟩
    · simp only [Kb.eErr, if_pos his]
    · simp only [Kb.eOut, if_pos his]
      exact g
  · refine (qencode_no l vc vp cs ps w hu hu' h h' his).mono ?_
    rintro e w' ⟨rfl, g⟩
    refine ⟨.slice none 0 0, trivial, ?_, ?_⟩
    · simp only [Kb.eErr, if_neg his]
    · simp only [Kb.eOut, if_neg his]
      exact g.nil1
end Go.Proofs.Yteedclmcgifmpaa

namespace Go.Proofs.Yteedclmcgifmpaa
open Go Go.RowKit Fw
open Sha
open Ots
open Mk
set_option linter.unusedVariables false
set_option linter.unusedSimpArgs false
set_option maxRecDepth 20000 in
set_option maxHeartbeats 4000000 in
theorem gdecode_ok (p : Value) (l : List Int) (w : World) (hl : l.length ≤ 140737488352000) (hb : Byt l) (h : Rd w p 1 (ints .u8 l)) (hk : Kb.ok l) : Calls Try.prog 41 #[p] w (Post (ι := Value × Value) w [] (fun _ => True) (fun x => .tuple #[.agg (List.toArray [.int .i64 (Rr.nVal l), x.1, x.2]), .int .i64 0]) (fun x => [(0, .own (x.1) 39 32 (flat (Kb.dcs l))), (1, .own (x.2) 39 32 (flat (Kb.dps l)))])) := by
  have hrl := Rr.nRest_len l
  have hr1 : (Kb.r1 l).length ≤ l.length := hrl
  have hr2 := Ky.restS_le (Kb.r1 l) 36
  have hu11 := Ky.hashS_h32 (Kb.r1 l) 36
  have hu13 := Ky.hashS_h32 (Ky.restS (Kb.r1 l) 36) 4
  refine calls_at (vs := [p]) (X := []) (H := []) (F := [(0, .sl (p) 1 (ints .u8 (l)))]) 25 Try.func41 rfl rfl rfl (Sat.rd0 0 h) ?_
  refine cd_seq ?_
  refine cd_region ?_
  refine st_alloc (h := 2) ty42 rfl rfl rfl (fun b2 => ?_)
  refine st (ev_assign rfl) rfl rfl rfl ?_
  refine op_nil ?_
  refine ax_then ?_
  refine At.regs (L' := [(0, _), (2, _), (3, _)]) (.cons rfl (.cons rfl (.cons rfl (.nil _)))) ?_
  refine cd_seq ?_
  refine cd_region ?_
  refine st (ev_move rfl) rfl rfl rfl ?_
  refine st_call has66 rfl (fun w1 sw => rn2 7 107 (newreader_any p l w1 (by omega) (sw.sl_rd (h := 0) rfl))) nil_all rfl rfl (fun x7 _ => ?_)
  obtain ⟨b7, lv7⟩ := x7
  dsimp only
  refine at_freeze (h := 107) (H' := [(7, _), (2, _)]) 21 rfl (.cons rfl (.cons rfl (.nil _))) rfl ?_
  refine st (ev_assign rfl) rfl rfl rfl ?_
  refine op_nil ?_
  refine ax_then ?_
  refine At.regs (L' := [(2, _), (3, _), (4, _)]) (.cons rfl (.cons rfl (.cons rfl (.nil _)))) ?_
  refine cd_seq ?_
  refine cd_region ?_
  refine st (ev_move rfl) rfl rfl rfl ?_
  refine st_call has67 rfl (fun w1 sw => rn 7 (rnum_g b7 lv7 false l w1 (sw.blk_eq (h := 7) rfl) (sw.sl_rd (h := 21) rfl) (sw.off 21 _ 7 _ rfl rfl _ (by simp [Ent.ids])) (by omega))) (mod_blk rfl) rfl rfl (fun x9 hx9 => ?_)
  refine at_fmap (h := 21) 22 rfl (fun w1 hh => hx9.rd w1 hh) hx9.blk hx9.nil ?_
  refine st (ev_move rfl) rfl rfl rfl ?_
  refine st_call has68 rfl (fun w1 sw => rn2 7 11 (khashes_any b7 x9 (false || Rr.nBad l) (Kb.r1 l) 36 w1 (sw.blk_eq (h := 7) rfl) (sw.sl_rd (h := 22) rfl) (sw.off 22 _ 7 _ rfl rfl _ (by simp [Ent.ids])) (by omega) (by decide))) (mod_blk2 rfl) rfl rfl (fun v11 _ => ?_)
  refine at_fmap (h := 22) 23 rfl (fun w1 hh => Ky.valS_rd hh 36) (fun b => Ky.valS_blk _ _ 36 b) (fun hh => Ky.restS_nil hh 36) ?_
  refine at_own_shape (h := 11) rfl (fun hs11 => ?_)
  refine st (ev_move rfl) rfl rfl rfl ?_
  refine st_call has68 rfl (fun w1 sw => rn2 7 13 (khashes_any b7 (Ky.valS x9 (Kb.r1 l) 36) (Ky.badS (false || Rr.nBad l) (Kb.r1 l) 36) (Ky.restS (Kb.r1 l) 36) 4 w1 (sw.blk_eq (h := 7) rfl) (sw.sl_rd (h := 23) rfl) (sw.off 23 _ 7 _ rfl rfl _ (by simp [Ent.ids])) (by omega) (by decide))) (mod_blk2 rfl) rfl rfl (fun v13 _ => ?_)
  refine at_fmap (h := 23) 24 rfl (fun w1 hh => Ky.valS_rd hh 4) (fun b => Ky.valS_blk _ _ 4 b) (fun hh => Ky.restS_nil hh 4) ?_
  refine at_own_shape (h := 13) rfl (fun hs13 => ?_)
  refine st (ev_build_struct ty42 rfl pl42 rfl ((fill_put (i := 0) (off := 0) (n := 1) (vs := [.int .i64 (Rr.nVal l)]) rfl rfl rfl (Nat.le_of_ble_eq_true rfl)).trans ((fill_put (i := 1) (off := 1) (n := 1) (vs := [v11]) rfl hs11.1 rfl (Nat.le_of_ble_eq_true rfl)).trans ((fill_put (i := 2) (off := 2) (n := 1) (vs := [v13]) rfl hs13.1 rfl (Nat.le_of_ble_eq_true rfl)).trans fill_nil)))) rfl rfl rfl ?_
  refine at_eq (i := 14) (v' := .agg (List.toArray [.int .i64 (Rr.nVal l), v11, v13])) rfl rfl ?_
  refine st_alloc (h := 5) ty42 rfl rfl rfl (fun b5 => ?_)
  refine st_store_all 5 ty42 rfl rfl rfl rfl rfl (by intro u hu; simp at hu; rcases hu with rfl | rfl | rfl; rfl; exact hs11.2; exact hs13.2) rfl rfl ?_
  refine op_nil ?_
  refine ax_then ?_
  refine At.regs (L' := [(2, _), (3, _), (4, _), (5, _)]) (.cons rfl (.cons rfl (.cons rfl (.cons rfl (.nil _))))) ?_
  refine cd_seq ?_
  refine cd_seq ?_
  refine cd_region ?_
  refine st (ev_move rfl) rfl rfl rfl ?_
  refine st_callv has69 rfl (fun w1 sw => rwhole_any b7 (Ky.valS (Ky.valS x9 (Kb.r1 l) 36) (Ky.restS (Kb.r1 l) 36) 4) (Ky.badS (Ky.badS (false || Rr.nBad l) (Kb.r1 l) 36) (Ky.restS (Kb.r1 l) 36) 4) (Ky.restS (Ky.restS (Kb.r1 l) 36) 4) w1 (lies_blk (sw.blk_eq (h := 7) rfl)) (sw.sl_rd (h := 24) rfl)) rfl rfl ?_
  refine at_eq (i := 16) (v' := .bool (decide (Kb.whole l))) rfl (by rw [Kb.whole_eq]) ?_
  refine st (ev_not_if rfl) rfl rfl rfl ?_
  refine st (ev_move rfl) rfl rfl rfl ?_
  refine at_eq (i := 18) (v' := .bool false) rfl (by simp only [Value.bool.injEq, decide_eq_true_eq, decide_eq_false_iff_not]; exact fun h => h hk.1) ?_
  refine st (ld_blk_all (h := 5) ty42 rfl rfl rfl (by first | omega | (simp only [List.length_append, List.length_cons, List.length_nil, List.length_set, List.length_replicate, List.length_take, List.length_drop, ints_length, wr_length, sha_len, node_len, recov_len, Ky.named_len, Ky.keyPub_len, Ky.hashOf_len] <;> omega) | rfl)) rfl rfl rfl ?_
  refine st_callv has37 rfl (fun w1 sw => isSig_any (Rr.nVal l) v11 v13 (Kb.dcs l) (Kb.dps l) w1 hu11 hu13 (sw.own_rd (h := 11) rfl) (sw.own_rd (h := 13) rfl)) rfl rfl ?_
  refine st (ev_not_if rfl) rfl rfl rfl ?_
  refine st (ev_pick_f rfl rfl) rfl rfl rfl ?_
  refine op_nil ?_
  refine ax_then ?_
  refine At.regs (L' := [(2, _), (3, _), (5, _), (22, _)]) (.cons rfl (.cons rfl (.cons rfl (.cons rfl (.nil _))))) ?_
  refine cd_if_f rfl (fun h => h hk.2) ?_
  refine cd_skip ?_
  refine ax_then ?_
  refine At.regs (L' := [(2, _), (3, _), (5, _)]) (.cons rfl (.cons rfl (.cons rfl (.nil _)))) ?_
  refine cd_seq ?_
  refine cd_region ?_
  refine st (ld_blk_all (h := 5) ty42 rfl rfl rfl (by first | omega | (simp only [List.length_append, List.length_cons, List.length_nil, List.length_set, List.length_replicate, List.length_take, List.length_drop, ints_length, wr_length, sha_len, node_len, recov_len, Ky.named_len, Ky.keyPub_len, Ky.hashOf_len] <;> omega) | rfl)) rfl rfl rfl ?_
  refine st_store_all 2 ty42 rfl rfl rfl rfl rfl (by intro u hu; simp at hu; rcases hu with rfl | rfl | rfl; rfl; exact hs11.2; exact hs13.2) rfl rfl ?_
  refine st (ev_assign rfl) rfl rfl rfl ?_
  refine op_nil ?_
  refine ax_then ?_
  refine At.regs (L' := [(2, _), (3, _)]) (.cons rfl (.cons rfl (.nil _))) ?_
  refine cd_ret ?_
  refine rt_cell_tmp (h0 := 2) (.inl rfl) Try.results41 ty42 rfl rfl rfl (by first | omega | (simp only [List.length_append, List.length_cons, List.length_nil, List.length_set, List.length_replicate, List.length_take, List.length_drop, ints_length, wr_length, sha_len, node_len, recov_len, Ky.named_len, Ky.keyPub_len, Ky.hashOf_len] <;> omega) | rfl) rfl ?_
  exact fun w1 sw => ⟨(v11, v13), trivial, rfl, (sw.gives (N := [(11, _), (13, _)]) (.cons rfl (.cons rfl (.nil _)))).rn2 (by decide) 0 1⟩
set_option maxRecDepth 20000 in
set_option maxHeartbeats 4000000 in
theorem gdecode_no (p : Value) (l : List Int) (w : World) (hl : l.length ≤ 140737488352000) (hb : Byt l) (h : Rd w p 1 (ints .u8 l)) (hk : ¬ Kb.ok l) : Calls Try.prog 41 #[p] w (PostV w (.tuple #[.agg (List.toArray [.int .i64 0, .slice none 0 0, .slice none 0 0]), .int .i64 2])) := by
  have hrl := Rr.nRest_len l
  have hr1 : (Kb.r1 l).length ≤ l.length := hrl
  have hr2 := Ky.restS_le (Kb.r1 l) 36
  have hu11 := Ky.hashS_h32 (Kb.r1 l) 36
  have hu13 := Ky.hashS_h32 (Ky.restS (Kb.r1 l) 36) 4
  refine calls_at (vs := [p]) (X := []) (H := []) (F := [(0, .sl (p) 1 (ints .u8 (l)))]) 25 Try.func41 rfl rfl rfl (Sat.rd0 0 h) ?_
  refine cd_seq ?_
  refine cd_region ?_
  refine st_alloc (h := 2) ty42 rfl rfl rfl (fun b2 => ?_)
  refine st (ev_assign rfl) rfl rfl rfl ?_
  refine op_nil ?_
  refine ax_then ?_
  refine At.regs (L' := [(0, _), (2, _), (3, _)]) (.cons rfl (.cons rfl (.cons rfl (.nil _)))) ?_
  refine cd_seq ?_
  refine cd_region ?_
  refine st (ev_move rfl) rfl rfl rfl ?_
  refine st_call has66 rfl (fun w1 sw => rn2 7 107 (newreader_any p l w1 (by omega) (sw.sl_rd (h := 0) rfl))) nil_all rfl rfl (fun x7 _ => ?_)
  obtain ⟨b7, lv7⟩ := x7
  dsimp only
  refine at_freeze (h := 107) (H' := [(7, _), (2, _)]) 21 rfl (.cons rfl (.cons rfl (.nil _))) rfl ?_
  refine st (ev_assign rfl) rfl rfl rfl ?_
  refine op_nil ?_
  refine ax_then ?_
  refine At.regs (L' := [(2, _), (3, _), (4, _)]) (.cons rfl (.cons rfl (.cons rfl (.nil _)))) ?_
  refine cd_seq ?_
  refine cd_region ?_
  refine st (ev_move rfl) rfl rfl rfl ?_
  refine st_call has67 rfl (fun w1 sw => rn 7 (rnum_g b7 lv7 false l w1 (sw.blk_eq (h := 7) rfl) (sw.sl_rd (h := 21) rfl) (sw.off 21 _ 7 _ rfl rfl _ (by simp [Ent.ids])) (by omega))) (mod_blk rfl) rfl rfl (fun x9 hx9 => ?_)
  refine at_fmap (h := 21) 22 rfl (fun w1 hh => hx9.rd w1 hh) hx9.blk hx9.nil ?_
  refine st (ev_move rfl) rfl rfl rfl ?_
  refine st_call has68 rfl (fun w1 sw => rn2 7 11 (khashes_any b7 x9 (false || Rr.nBad l) (Kb.r1 l) 36 w1 (sw.blk_eq (h := 7) rfl) (sw.sl_rd (h := 22) rfl) (sw.off 22 _ 7 _ rfl rfl _ (by simp [Ent.ids])) (by omega) (by decide))) (mod_blk2 rfl) rfl rfl (fun v11 _ => ?_)
  refine at_fmap (h := 22) 23 rfl (fun w1 hh => Ky.valS_rd hh 36) (fun b => Ky.valS_blk _ _ 36 b) (fun hh => Ky.restS_nil hh 36) ?_
  refine at_own_shape (h := 11) rfl (fun hs11 => ?_)
  refine st (ev_move rfl) rfl rfl rfl ?_
  refine st_call has68 rfl (fun w1 sw => rn2 7 13 (khashes_any b7 (Ky.valS x9 (Kb.r1 l) 36) (Ky.badS (false || Rr.nBad l) (Kb.r1 l) 36) (Ky.restS (Kb.r1 l) 36) 4 w1 (sw.blk_eq (h := 7) rfl) (sw.sl_rd (h := 23) rfl) (sw.off 23 _ 7 _ rfl rfl _ (by simp [Ent.ids])) (by omega) (by decide))) (mod_blk2 rfl) rfl rfl (fun v13 _ => ?_)
  refine at_fmap (h := 23) 24 rfl (fun w1 hh => Ky.valS_rd hh 4) (fun b => Ky.valS_blk _ _ 4 b) (fun hh => Ky.restS_nil hh 4) ?_
  refine at_own_shape (h := 13) rfl (fun hs13 => ?_)
  refine st (ev_build_struct ty42 rfl pl42 rfl ((fill_put (i := 0) (off := 0) (n := 1) (vs := [.int .i64 (Rr.nVal l)]) rfl rfl rfl (Nat.le_of_ble_eq_true rfl)).trans ((fill_put (i := 1) (off := 1) (n := 1) (vs := [v11]) rfl hs11.1 rfl (Nat.le_of_ble_eq_true rfl)).trans ((fill_put (i := 2) (off := 2) (n := 1) (vs := [v13]) rfl hs13.1 rfl (Nat.le_of_ble_eq_true rfl)).trans fill_nil)))) rfl rfl rfl ?_
  refine at_eq (i := 14) (v' := .agg (List.toArray [.int .i64 (Rr.nVal l), v11, v13])) rfl rfl ?_
  refine st_alloc (h := 5) ty42 rfl rfl rfl (fun b5 => ?_)
  refine st_store_all 5 ty42 rfl rfl rfl rfl rfl (by intro u hu; simp at hu; rcases hu with rfl | rfl | rfl; rfl; exact hs11.2; exact hs13.2) rfl rfl ?_
  refine op_nil ?_
  refine ax_then ?_
  refine At.regs (L' := [(2, _), (3, _), (4, _), (5, _)]) (.cons rfl (.cons rfl (.cons rfl (.cons rfl (.nil _))))) ?_
  refine cd_seq ?_
  refine cd_seq ?_
  refine cd_region ?_
  refine st (ev_move rfl) rfl rfl rfl ?_
  refine st_callv has69 rfl (fun w1 sw => rwhole_any b7 (Ky.valS (Ky.valS x9 (Kb.r1 l) 36) (Ky.restS (Kb.r1 l) 36) 4) (Ky.badS (Ky.badS (false || Rr.nBad l) (Kb.r1 l) 36) (Ky.restS (Kb.r1 l) 36) 4) (Ky.restS (Ky.restS (Kb.r1 l) 36) 4) w1 (lies_blk (sw.blk_eq (h := 7) rfl)) (sw.sl_rd (h := 24) rfl)) rfl rfl ?_
  refine at_eq (i := 16) (v' := .bool (decide (Kb.whole l))) rfl (by rw [Kb.whole_eq]) ?_
  refine st (ev_not_if rfl) rfl rfl rfl ?_
  refine st (ev_move rfl) rfl rfl rfl ?_
  refine at_split_if (i := 18) rfl (fun hg18 => ?_) (fun hg18 => ?_)
  ·
    refine st_skip rfl rfl rfl ?_
    refine st_skip rfl rfl rfl ?_
    refine st_skip rfl rfl rfl ?_
    refine st (ev_pick_t rfl rfl) rfl rfl rfl ?_
    refine op_nil ?_
    refine ax_then ?_
    refine At.regs (L' := [(2, _), (3, _), (5, _), (22, _)]) (.cons rfl (.cons rfl (.cons rfl (.cons rfl (.nil _))))) ?_
    refine cd_true rfl ?_
    refine cd_seq ?_
    refine cd_region ?_
    refine st (ev_build_struct ty42 rfl pl42 rfl rfl) rfl rfl rfl ?_
    refine st_store_all 2 ty42 rfl rfl rfl rfl (by first | omega | (simp only [List.length_append, List.length_cons, List.length_nil, List.length_set, List.length_replicate, List.length_take, List.length_drop, ints_length, wr_length, sha_len, node_len, recov_len, Ky.named_len, Ky.keyPub_len, Ky.hashOf_len] <;> omega) | rfl) (by first | (intro u hu; simp at hu; rcases hu with rfl | rfl <;> rfl) | (simp [Value.oneCell'])) (by first | omega | (simp only [List.length_append, List.length_cons, List.length_nil, List.length_set, List.length_replicate, List.length_take, List.length_drop, ints_length, wr_length, sha_len, node_len, recov_len, Ky.named_len, Ky.keyPub_len, Ky.hashOf_len] <;> omega) | rfl) rfl ?_
    refine st (ev_assign rfl) rfl rfl rfl ?_
    refine op_nil ?_
    refine ax_then ?_
    refine At.regs (L' := [(2, _), (3, _), (5, _)]) (.cons rfl (.cons rfl (.cons rfl (.nil _)))) ?_
    refine cd_ret ?_
    refine ax_then_ret ?_
    refine rt_cell_tmp (h0 := 2) (.inl rfl) Try.results41 ty42 rfl rfl rfl (by first | omega | (simp only [List.length_append, List.length_cons, List.length_nil, List.length_set, List.length_replicate, List.length_take, List.length_drop, ints_length, wr_length, sha_len, node_len, recov_len, Ky.named_len, Ky.keyPub_len, Ky.hashOf_len] <;> omega) | rfl) rfl ?_
    exact fun w1 sw => ⟨rfl, sw.gives (.nil _)⟩
  ·
    refine st (ld_blk_all (h := 5) ty42 rfl rfl rfl (by first | omega | (simp only [List.length_append, List.length_cons, List.length_nil, List.length_set, List.length_replicate, List.length_take, List.length_drop, ints_length, wr_length, sha_len, node_len, recov_len, Ky.named_len, Ky.keyPub_len, Ky.hashOf_len] <;> omega) | rfl)) rfl rfl rfl ?_
    refine st_callv has37 rfl (fun w1 sw => isSig_any (Rr.nVal l) v11 v13 (Kb.dcs l) (Kb.dps l) w1 hu11 hu13 (sw.own_rd (h := 11) rfl) (sw.own_rd (h := 13) rfl)) rfl rfl ?_
    refine st (ev_not_if rfl) rfl rfl rfl ?_
    refine st (ev_pick_f rfl rfl) rfl rfl rfl ?_
    refine op_nil ?_
    refine ax_then ?_
    refine At.regs (L' := [(2, _), (3, _), (5, _), (22, _)]) (.cons rfl (.cons rfl (.cons rfl (.cons rfl (.nil _))))) ?_
    refine cd_if_t rfl (by exact fun h => hk ⟨Classical.not_not.1 hg18, h⟩) ?_
    refine cd_seq ?_
    refine cd_region ?_
    refine st (ev_build_struct ty42 rfl pl42 rfl rfl) rfl rfl rfl ?_
    refine st_store_all 2 ty42 rfl rfl rfl rfl (by first | omega | (simp only [List.length_append, List.length_cons, List.length_nil, List.length_set, List.length_replicate, List.length_take, List.length_drop, ints_length, wr_length, sha_len, node_len, recov_len, Ky.named_len, Ky.keyPub_len, Ky.hashOf_len] <;> omega) | rfl) (by first | (intro u hu; simp at hu; rcases hu with rfl | rfl <;> rfl) | (simp [Value.oneCell'])) (by first | omega | (simp only [List.length_append, List.length_cons, List.length_nil, List.length_set, List.length_replicate, List.length_take, List.length_drop, ints_length, wr_length, sha_len, node_len, recov_len, Ky.named_len, Ky.keyPub_len, Ky.hashOf_len] <;> omega) | rfl) rfl ?_
    refine st (ev_assign rfl) rfl rfl rfl ?_
    refine op_nil ?_
    refine ax_then ?_
    refine At.regs (L' := [(2, _), (3, _), (5, _)]) (.cons rfl (.cons rfl (.cons rfl (.nil _)))) ?_
    refine cd_ret ?_
    refine ax_then_ret ?_
    refine rt_cell_tmp (h0 := 2) (.inl rfl) Try.results41 ty42 rfl rfl rfl (by first | omega | (simp only [List.length_append, List.length_cons, List.length_nil, List.length_set, List.length_replicate, List.length_take, List.length_drop, ints_length, wr_length, sha_len, node_len, recov_len, Ky.named_len, Ky.keyPub_len, Ky.hashOf_len] <;> omega) | rfl) rfl ?_
    exact fun w1 sw => ⟨rfl, sw.gives (.nil _)⟩
theorem decodeG_any (p : Value) (l : List Int) (w : World) (hl : l.length ≤ 140737488352000) (hb : Byt l) (h : Rd w p 1 (ints .u8 l)) : Calls Try.prog 41 #[p] w (Post (ι := Value × Value) w [] (fun _ => True) (fun x => .tuple #[.agg (List.toArray [.int .i64 (Kb.sLeaf l), x.1, x.2]), .int .i64 (Kb.sErr l)]) (fun x => [(0, .own (x.1) 39 32 (flat (Kb.sCs l))), (1, .own (x.2) 39 32 (flat (Kb.sPs l)))])) := by
  by_cases hk : Kb.ok l
  · refine (gdecode_ok p l w hl hb h hk).mono ?_
    rintro e w' ⟨x, _, rfl, g⟩
    refine ⟨x, trivial, ?_, ?_⟩
    · simp only [Kb.sLeaf, Kb.sErr, if_pos hk]
    · simp only [Kb.sCs, Kb.sPs, if_pos hk]
      exact g
  · refine (gdecode_no p l w hl hb h hk).mono ?_
    rintro e w' ⟨rfl, g⟩
    refine ⟨(.slice none 0 0, .slice none 0 0), trivial, ?_, ?_⟩
    · simp only [Kb.sLeaf, Kb.sErr, if_neg hk]
    · simp only [Kb.sCs, Kb.sPs, if_neg hk]
      exact g.nil2
set_option maxRecDepth 20000 in
set_option maxHeartbeats 4000000 in
theorem qhash_any (b : Nat) (rv : Value) (bad : Bool) (r : List Int) (w : World) (hb : w.heap[b]? = some (.cells (List.toArray [rv, .bool bad]) 102)) (h : Rd w rv 1 (ints .u8 r)) (ho : FE.off b (.sl rv 1 (ints .u8 r))) (hr : r.length ≤ 140737488352000) (he : bad = true → r = []) : Calls Try.prog 71 #[.pointer (some ⟨b, 0, none⟩)] w (Post (ι := Value) w [b] (fun x => Rr.Und rv r x (Ky.rawRest r)) (fun _ => .agg (ints .u8 (Ky.hashOf r)).toArray) (fun x => [(0, .blk (b) (.cells ([x, .bool (bad || decide (r.length < 32))]).toArray 102))])) := by
  have hro := Ky.rawOut_len r
  have hhl := Ky.hashOf_len r
  refine calls_at (vs := [.pointer (some ⟨b, 0, none⟩)]) (X := [b]) (H := [(0, .blk (b) (.cells ([rv, .bool (bad)]).toArray 102))]) (F := [(1, .sl rv 1 (ints .u8 r))]) 9 Try.func71 rfl rfl rfl ((Sat.blkX 0 hb).readb (f := .sl rv 1 (ints .u8 r)) 1 h ho) ?_
  refine cd_seq ?_
  refine cd_region ?_
  refine st_alloc (h := 2) ty39 rfl rfl rfl (fun b2 => ?_)
  refine op_nil ?_
  refine ax_then ?_
  refine At.regs (L' := [(0, _), (2, _)]) (.cons rfl (.cons rfl (.nil _))) ?_
  refine cd_seq ?_
  refine cd_region ?_
  refine st_alloc (h := 3) ty39 rfl rfl rfl (fun b3 => ?_)
  refine op_nil ?_
  refine ax_then ?_
  refine At.regs (L' := [(0, _), (2, _), (3, _)]) (.cons rfl (.cons rfl (.cons rfl (.nil _)))) ?_
  refine cd_seq ?_
  refine cd_mix hmix ?_
  refine mx (i := 0) rfl (by decide +kernel) (by decide +kernel) (by decide +kernel) rfl (fun w0 => ev_slice_arr_all Try.underlying39 ty5 rfl) rfl rfl (Sub.refl _) ?_
  refine mx (i := 1) rfl (by decide +kernel) (by decide +kernel) (by decide +kernel) rfl (fun w0 => ev_move rfl) rfl rfl (Sub.refl _) ?_
  refine mx_one (i := 2) (by decide +kernel) (Sub.refl _) ?_
  refine wo (i := 2) rfl ?_
  refine st_call has96 rfl (fun w1 sw => rn2 0 6 (qraw_g b rv bad r w1 (sw.blk_eq (h := 0) rfl) (sw.sl_rd (h := 1) rfl) (sw.off 1 _ 0 _ rfl rfl _ (by simp [Ent.ids])) (by omega) he 32)) (mod_blk2 rfl) rfl rfl (fun x6 hx6 => ?_)
  obtain ⟨vd, vo⟩ := x6
  dsimp only at hx6 ⊢
  rw [(Rr.rOut_32 r).2.1] at hx6
  refine at_heq (i := 6) (v' := .own (vo) 5 1 (ints .u8 (Ky.rawOut r))) rfl (by rw [(Rr.rOut_32 r).1]) ?_
  refine at_heq (i := 0) (v' := .blk (b) (.cells ([vd, .bool (bad || decide (r.length < 32))]).toArray 102)) rfl (by rw [(Rr.rOut_32 r).2.2]) ?_
  refine op_nil ?_
  refine ax_then ?_
  refine mx_one (i := 3) (by decide +kernel) (Sub.refl _) ?_
  refine wo (i := 3) rfl ?_
  refine st_copy (n := (Ky.rawOut r).length) 3 Try.underlying22 ty5 rfl rfl rfl (fun w1 sw => sw.own_rd (h := 6) rfl) (by decide) (by rw [ints_length, Nat.mul_one]) (by rw [ints_length, List.length_replicate]; decide) (ints_one _ _) rfl rfl ?_
  refine at_heq (i := 3) (v' := .blk b3 (.cells (ints .u8 (Ky.hashOf r)).toArray 39)) rfl (by rw [Ky.hash_copy]) ?_
  refine op_nil ?_
  refine ax_then ?_
  refine mx_done (by decide +kernel) (Sub.refl _) ?_
  refine ax_then ?_
  refine At.regs (L' := [(2, _), (3, _)]) (.cons rfl (.cons rfl (.nil _))) ?_
  refine cd_seq ?_
  refine cd_region ?_
  refine st (ld_blk_all (h := 3) ty39 rfl rfl rfl (by first | omega | (simp only [List.length_append, List.length_cons, List.length_nil, List.length_set, List.length_replicate, List.length_take, List.length_drop, ints_length, wr_length, sha_len, node_len, recov_len, Ky.named_len, Ky.keyPub_len, Ky.hashOf_len] <;> omega) | rfl)) rfl rfl rfl ?_
  refine st_store_all 2 ty39 rfl rfl rfl rfl (by first | omega | (simp only [List.length_append, List.length_cons, List.length_nil, List.length_set, List.length_replicate, List.length_take, List.length_drop, ints_length, wr_length, sha_len, node_len, recov_len, Ky.named_len, Ky.keyPub_len, Ky.hashOf_len] <;> omega) | rfl) (ints_one _ _) (by first | omega | (simp only [List.length_append, List.length_cons, List.length_nil, List.length_set, List.length_replicate, List.length_take, List.length_drop, ints_length, wr_length, sha_len, node_len, recov_len, Ky.named_len, Ky.keyPub_len, Ky.hashOf_len] <;> omega) | rfl) rfl ?_
  refine op_nil ?_
  refine ax_then ?_
  refine At.regs (L' := [(2, _)]) (.cons rfl (.nil _)) ?_
  refine cd_ret ?_
  refine rt_cell (h0 := 2) (.inl rfl) Try.results71 ty39 rfl rfl rfl (by first | omega | (simp only [List.length_append, List.length_cons, List.length_nil, List.length_set, List.length_replicate, List.length_take, List.length_drop, ints_length, wr_length, sha_len, node_len, recov_len, Ky.named_len, Ky.keyPub_len, Ky.hashOf_len] <;> omega) | rfl) ?_
  exact fun w1 sw => ⟨vd, hx6, rfl, (sw.gives (N := [(0, _)]) (.cons rfl (.nil _)))⟩
set_option maxRecDepth 20000 in
set_option maxHeartbeats 8000000 in
theorem qdecode_ok (p : Value) (l : List Int) (w : World) (hl : l.length ≤ 140737488352000) (hb : Byt l) (h : Rd w p 1 (ints .u8 l)) (hk : Kb.ok l) : Calls Try.prog 42 #[p] w (Post (ι := Value × Value) w [] (fun _ => True) (fun x => .tuple #[.agg (List.toArray [.int .i64 (Rr.nVal l), x.1, x.2]), .int .i64 0]) (fun x => [(0, .own (x.1) 39 32 (flat (Kb.dcs l))), (1, .own (x.2) 39 32 (flat (Kb.dps l)))])) := by
  have hsp := rd_shape h
  have hrl := Rr.nRest_len l
  have hr1 : (Kb.r1 l).length ≤ l.length := hrl
  have hr2 := Ky.restS_le (Kb.r1 l) 36
  refine calls_at (vs := [p]) (X := []) (H := []) (F := [(21, .sl (p) 1 (ints .u8 (l)))]) 46 Try.func42 rfl rfl rfl (Sat.rd0 21 h) ?_
  refine cd_seq ?_
  refine cd_region ?_
  refine st_alloc (h := 2) ty42 rfl rfl rfl (fun b2 => ?_)
  refine st (ev_assign rfl) rfl rfl rfl ?_
  refine op_nil ?_
  refine ax_then ?_
  refine At.regs (L' := [(0, _), (2, _), (3, _)]) (.cons rfl (.cons rfl (.cons rfl (.nil _)))) ?_
  refine cd_seq ?_
  refine cd_region ?_
  refine st (ev_move rfl) rfl rfl rfl ?_
  refine st (ev_build_struct ty102 rfl pl102 rfl ((fill_put (i := 0) (off := 0) (n := 1) (vs := [p]) rfl hsp.1 rfl (Nat.le_of_ble_eq_true rfl)).trans fill_nil)) rfl rfl rfl ?_
  refine at_eq (i := 9) (v' := .agg (List.toArray [p, .bool false])) rfl rfl ?_
  refine st_box (h := 10) rfl rfl rfl rfl (fun b10 => ?_)
  refine st (ev_assign rfl) rfl rfl rfl ?_
  refine op_nil ?_
  refine ax_then ?_
  refine At.regs (L' := [(2, _), (3, _), (4, _)]) (.cons rfl (.cons rfl (.cons rfl (.nil _)))) ?_
  refine cd_seq ?_
  refine cd_region ?_
  refine st (ev_move rfl) rfl rfl rfl ?_
  refine st_call has70 rfl (fun w1 sw => rn 10 (qrnum_g b10 p false l w1 (sw.blk_eq (h := 10) rfl) (sw.sl_rd (h := 21) rfl) (sw.off 21 _ 10 _ rfl rfl _ (by simp [Ent.ids])) (by omega) (fun hh => by cases hh) hb)) (mod_blk rfl) rfl rfl (fun x12 hx12 => ?_)
  refine at_fmap (h := 21) 21 rfl (fun w1 hh => hx12.rd w1 hh) hx12.blk hx12.nil ?_
  refine st (ev_build_struct ty42 rfl pl42 rfl ((fill_put (i := 0) (off := 0) (n := 1) (vs := [.int .i64 (Rr.nVal l)]) rfl rfl rfl (Nat.le_of_ble_eq_true rfl)).trans fill_nil)) rfl rfl rfl ?_
  refine at_eq (i := 13) (v' := .agg (List.toArray [.int .i64 (Rr.nVal l), .slice none 0 0, .slice none 0 0])) rfl rfl ?_
  refine st_alloc (h := 5) ty42 rfl rfl rfl (fun b5 => ?_)
  refine st_store_all 5 ty42 rfl rfl rfl rfl rfl (by intro u hu; simp at hu; rcases hu with rfl | rfl | rfl <;> rfl) rfl rfl ?_
  refine op_nil ?_
  refine ax_then ?_
  refine At.regs (L' := [(2, _), (3, _), (4, _), (5, _)]) (.cons rfl (.cons rfl (.cons rfl (.cons rfl (.nil _))))) ?_
  refine cd_seq ?_
  refine cd_seq ?_
  refine cd_region ?_
  refine st (ev_assign rfl) rfl rfl rfl ?_
  refine op_nil ?_
  refine ax_then ?_
  refine At.regs (L' := [(2, _), (3, _), (4, _), (5, _), (6, _)]) (.cons rfl (.cons rfl (.cons rfl (.cons rfl (.cons rfl (.nil _)))))) ?_
  refine cd_block ?_
  refine at_own_nil 101 39 32 ?_
  refine at_heq (i := 101) (v' := .own (.slice none 0 0) 39 32 (flat (Ky.hashS (Kb.r1 l) 0))) rfl rfl ?_
  refine cd_loop (ι := Nat × Value × Value) (fun x => x.1 ≤ 36 ∧ Rr.Und p l x.2.1 (Ky.restS (Kb.r1 l) x.1)) (fun x => 36 - x.1)
      (fun x => [(2, .pointer (some ⟨b2, 0, none⟩)), (4, .pointer (some ⟨b10, 0, none⟩)), (5, .pointer (some ⟨b5, 0, none⟩)), (6, .int .i64 (x.1 : Int))])
      (fun x => [(2, .blk (b2) (.cells ([.int .i64 0, .slice none 0 0, .slice none 0 0]).toArray 42)), (5, .blk (b5) (.cells ([.int .i64 (Rr.nVal l), x.2.2, .slice none 0 0]).toArray 42)), (10, .blk (b10) (.cells ([x.2.1, .bool (Ky.badS (false || Rr.nBad l) (Kb.r1 l) x.1)]).toArray 102)), (101, .own (x.2.2) 39 32 (flat (Ky.hashS (Kb.r1 l) x.1)))])
      (fun x => [(21, .sl x.2.1 1 (ints .u8 (Ky.restS (Kb.r1 l) x.1)))])
      (0, x12, .slice none 0 0) (⟨by omega, hx12⟩) (.cons rfl (.cons rfl (.cons rfl (.cons rfl (.nil _))))) (.cons rfl (.cons rfl (.cons rfl (.cons rfl (.nil _))))) (.cons rfl (.nil _)) (fun x hi => ?_)
  obtain ⟨i, rv, ua⟩ := x
  dsimp only at hi ⊢
  have hi1 := hi.1
  have hu1 := Ky.hashS_h32 (Kb.r1 l) i
  have hn1 := Ky.hashS_len (Kb.r1 l) i
  have hhl := Ky.hashOf_len (Ky.restS (Kb.r1 l) i)
  refine cd_seq ?_
  refine cd_seq ?_
  refine cd_region ?_
  refine st (ev_move rfl) rfl rfl rfl ?_
  refine st (ev_lss rfl rfl) rfl rfl rfl ?_
  refine op_nil ?_
  refine ax_then ?_
  refine At.regs (L' := [(2, _), (4, _), (5, _), (6, _), (14, _), (15, _)]) (.cons rfl (.cons rfl (.cons rfl (.cons rfl (.cons rfl (.cons rfl (.nil _))))))) ?_
  refine cd_if rfl (fun hc15 => ?_) (fun hc15 => ?_)
  ·
    refine cd_skip ?_
    refine ax_then ?_
    refine At.regs (L' := [(2, _), (4, _), (5, _), (6, _), (14, _), (15, _)]) (.cons rfl (.cons rfl (.cons rfl (.cons rfl (.cons rfl (.cons rfl (.nil _))))))) ?_
    refine cd_seq ?_
    refine cd_block ?_
    refine cd_mix hmix ?_
    refine mx (i := 0) rfl (by decide +kernel) (by decide +kernel) (by decide +kernel) rfl (fun w0 => ev_fieldAddr (b := _) Try.underlying42 (f := _) rfl ty26 (by decide) rfl) rfl rfl (Sub.refl _) ?_
    refine mx (i := 2) rfl (by decide +kernel) (by decide +kernel) (by decide +kernel) rfl (fun w0 => ev_move rfl) rfl rfl (Sub.refl _) ?_
    refine mx_two (i := 1) (j := 3) (by decide +kernel) (Sub.refl _) ?_ ?_
    ·
      refine wo (i := 1) rfl ?_
      refine st (ld_blk1 (h := 5) ty26 rfl rfl rfl rfl) rfl rfl rfl ?_
      refine op_nil ?_
      refine ax_then ?_
      refine mx_one (i := 3) (by decide +kernel) (Sub.refl _) ?_
      refine wo (i := 3) rfl ?_
      refine st_call has71 rfl (fun w1 sw => rn 10 (qhash_any b10 rv (Ky.badS (false || Rr.nBad l) (Kb.r1 l) i) (Ky.restS (Kb.r1 l) i) w1 (sw.blk_eq (h := 10) rfl) (sw.sl_rd (h := 21) rfl) (sw.off 21 _ 10 _ rfl rfl _ (by simp [Ent.ids])) (by have := Ky.restS_le (Kb.r1 l) i; omega) (fun hh => Kb.badS_rest (fun hb1 => Rr.nRest_no (by simpa using hb1)) hh))) (mod_blk rfl) rfl rfl (fun x21 hx21 => ?_)
      refine op_nil ?_
      refine ax_then ?_
      refine mx_one (i := 4) (by decide +kernel) (Sub.refl _) ?_
      refine wo (i := 4) rfl ?_
      refine st_bsh1 (h := 22) Try.underlying26 ty39 rfl (by assumption) rfl rfl (fun b22 hu22 => ?_)
      refine op_nil ?_
      refine ax_then ?_
      refine mx_one (i := 5) (by decide +kernel) (Sub.refl _) ?_
      refine wo (i := 5) rfl ?_
      refine st_appendh (h := 101) Try.underlying26 Try.underlying26 ty39 rfl rfl rfl rfl (fun w1 sw => sw.own_rd (h := 22) rfl) hu1 hu22 (by simp only [List.length_cons, List.length_nil]; omega) (by decide) rfl rfl (fun v23 hu23 => ?_)
      refine at_heq (i := 101) (v' := .own (v23) 39 32 (flat (Ky.hashS (Kb.r1 l) (i + 1)))) rfl rfl ?_
      refine at_own_shape (h := 101) rfl (fun hs23 => ?_)
      refine op_nil ?_
      refine ax_then ?_
      refine mx (i := 6) rfl (by decide +kernel) (by decide +kernel) (by decide +kernel) rfl (fun w0 => ev_fieldAddr (b := _) Try.underlying42 (f := _) rfl ty26 (by decide) rfl) rfl rfl (Sub.refl _) ?_
      refine mx_one (i := 7) (by decide +kernel) (Sub.refl _) ?_
      refine wo (i := 7) rfl ?_
      refine st_store1 5 ty26 rfl rfl rfl hs23.2 (show 1 < 3 from by decide) rfl ?_
      refine at_heq (i := 5) (v' := .blk (b5) (.cells ([.int .i64 (Rr.nVal l), v23, .slice none 0 0]).toArray 42)) rfl rfl ?_
      refine op_nil ?_
      refine ax_then ?_
      refine mx_done (by decide +kernel) (Sub.refl _) ?_
      refine ax_block ?_
      refine ax_then ?_
      refine At.regs (L' := [(2, _), (4, _), (5, _), (6, _), (14, _), (15, _), (18, _), (19, _), (20, _), (21, _), (22, _), (23, _), (24, _)]) (.cons rfl (.cons rfl (.cons rfl (.cons rfl (.cons rfl (.cons rfl (.cons rfl (.cons rfl (.cons rfl (.cons rfl (.cons rfl (.cons rfl (.cons rfl (.nil _)))))))))))))) ?_
      refine at_fmap (h := 21) 21 rfl (fun w1 hh => hx21.rd w1 hh) hx21.blk hx21.nil ?_
      refine cd_region ?_
      refine st (ev_move rfl) rfl rfl rfl ?_
      refine st (ev_add64 rfl rfl (by omega) (by omega)) rfl rfl rfl ?_
      refine st (ev_assign rfl) rfl rfl rfl ?_
      refine op_nil ?_
      exact at_again ((i + 1, x21, v23)) (⟨by show i + 1 ≤ 36; omega, hi.2.trans hx21⟩) (by omega) (.cons rfl (.cons rfl (.cons rfl (.cons rfl (.nil _))))) (.cons rfl (.cons rfl (.cons rfl (.cons rfl (.nil _))))) (.cons rfl (.nil _))
    ·
      refine wo (i := 3) rfl ?_
      refine st_call has71 rfl (fun w1 sw => rn 10 (qhash_any b10 rv (Ky.badS (false || Rr.nBad l) (Kb.r1 l) i) (Ky.restS (Kb.r1 l) i) w1 (sw.blk_eq (h := 10) rfl) (sw.sl_rd (h := 21) rfl) (sw.off 21 _ 10 _ rfl rfl _ (by simp [Ent.ids])) (by have := Ky.restS_le (Kb.r1 l) i; omega) (fun hh => Kb.badS_rest (fun hb1 => Rr.nRest_no (by simpa using hb1)) hh))) (mod_blk rfl) rfl rfl (fun x21 hx21 => ?_)
      refine op_nil ?_
      refine ax_then ?_
      refine mx_two (i := 1) (j := 4) (by decide +kernel) (Sub.refl _) ?_ ?_
      ·
        refine wo (i := 1) rfl ?_
        refine st (ld_blk1 (h := 5) ty26 rfl rfl rfl rfl) rfl rfl rfl ?_
        refine op_nil ?_
        refine ax_then ?_
        refine mx_one (i := 4) (by decide +kernel) (Sub.refl _) ?_
        refine wo (i := 4) rfl ?_
        refine st_bsh1 (h := 22) Try.underlying26 ty39 rfl (by assumption) rfl rfl (fun b22 hu22 => ?_)
        refine op_nil ?_
        refine ax_then ?_
        refine mx_one (i := 5) (by decide +kernel) (Sub.refl _) ?_
        refine wo (i := 5) rfl ?_
        refine st_appendh (h := 101) Try.underlying26 Try.underlying26 ty39 rfl rfl rfl rfl (fun w1 sw => sw.own_rd (h := 22) rfl) hu1 hu22 (by simp only [List.length_cons, List.length_nil]; omega) (by decide) rfl rfl (fun v23 hu23 => ?_)
        refine at_heq (i := 101) (v' := .own (v23) 39 32 (flat (Ky.hashS (Kb.r1 l) (i + 1)))) rfl rfl ?_
        refine at_own_shape (h := 101) rfl (fun hs23 => ?_)
        refine op_nil ?_
        refine ax_then ?_
        refine mx (i := 6) rfl (by decide +kernel) (by decide +kernel) (by decide +kernel) rfl (fun w0 => ev_fieldAddr (b := _) Try.underlying42 (f := _) rfl ty26 (by decide) rfl) rfl rfl (Sub.refl _) ?_
        refine mx_one (i := 7) (by decide +kernel) (Sub.refl _) ?_
        refine wo (i := 7) rfl ?_
        refine st_store1 5 ty26 rfl rfl rfl hs23.2 (show 1 < 3 from by decide) rfl ?_
        refine at_heq (i := 5) (v' := .blk (b5) (.cells ([.int .i64 (Rr.nVal l), v23, .slice none 0 0]).toArray 42)) rfl rfl ?_
        refine op_nil ?_
        refine ax_then ?_
        refine mx_done (by decide +kernel) (Sub.refl _) ?_
        refine ax_block ?_
        refine ax_then ?_
        refine At.regs (L' := [(2, _), (4, _), (5, _), (6, _), (14, _), (15, _), (18, _), (19, _), (20, _), (21, _), (22, _), (23, _), (24, _)]) (.cons rfl (.cons rfl (.cons rfl (.cons rfl (.cons rfl (.cons rfl (.cons rfl (.cons rfl (.cons rfl (.cons rfl (.cons rfl (.cons rfl (.cons rfl (.nil _)))))))))))))) ?_
        refine at_fmap (h := 21) 21 rfl (fun w1 hh => hx21.rd w1 hh) hx21.blk hx21.nil ?_
        refine cd_region ?_
        refine st (ev_move rfl) rfl rfl rfl ?_
        refine st (ev_add64 rfl rfl (by omega) (by omega)) rfl rfl rfl ?_
        refine st (ev_assign rfl) rfl rfl rfl ?_
        refine op_nil ?_
        exact at_again ((i + 1, x21, v23)) (⟨by show i + 1 ≤ 36; omega, hi.2.trans hx21⟩) (by omega) (.cons rfl (.cons rfl (.cons rfl (.cons rfl (.nil _))))) (.cons rfl (.cons rfl (.cons rfl (.cons rfl (.nil _))))) (.cons rfl (.nil _))
      ·
        refine wo (i := 4) rfl ?_
        refine st_bsh1 (h := 22) Try.underlying26 ty39 rfl (by assumption) rfl rfl (fun b22 hu22 => ?_)
        refine op_nil ?_
        refine ax_then ?_
        refine mx_one (i := 1) (by decide +kernel) (Sub.refl _) ?_
        refine wo (i := 1) rfl ?_
        refine st (ld_blk1 (h := 5) ty26 rfl rfl rfl rfl) rfl rfl rfl ?_
        refine op_nil ?_
        refine ax_then ?_
        refine mx_one (i := 5) (by decide +kernel) (Sub.refl _) ?_
        refine wo (i := 5) rfl ?_
        refine st_appendh (h := 101) Try.underlying26 Try.underlying26 ty39 rfl rfl rfl rfl (fun w1 sw => sw.own_rd (h := 22) rfl) hu1 hu22 (by simp only [List.length_cons, List.length_nil]; omega) (by decide) rfl rfl (fun v23 hu23 => ?_)
        refine at_heq (i := 101) (v' := .own (v23) 39 32 (flat (Ky.hashS (Kb.r1 l) (i + 1)))) rfl rfl ?_
        refine at_own_shape (h := 101) rfl (fun hs23 => ?_)
        refine op_nil ?_
        refine ax_then ?_
        refine mx (i := 6) rfl (by decide +kernel) (by decide +kernel) (by decide +kernel) rfl (fun w0 => ev_fieldAddr (b := _) Try.underlying42 (f := _) rfl ty26 (by decide) rfl) rfl rfl (Sub.refl _) ?_
        refine mx_one (i := 7) (by decide +kernel) (Sub.refl _) ?_
        refine wo (i := 7) rfl ?_
        refine st_store1 5 ty26 rfl rfl rfl hs23.2 (show 1 < 3 from by decide) rfl ?_
        refine at_heq (i := 5) (v' := .blk (b5) (.cells ([.int .i64 (Rr.nVal l), v23, .slice none 0 0]).toArray 42)) rfl rfl ?_
        refine op_nil ?_
        refine ax_then ?_
        refine mx_done (by decide +kernel) (Sub.refl _) ?_
        refine ax_block ?_
        refine ax_then ?_
        refine At.regs (L' := [(2, _), (4, _), (5, _), (6, _), (14, _), (15, _), (18, _), (19, _), (20, _), (21, _), (22, _), (23, _), (24, _)]) (.cons rfl (.cons rfl (.cons rfl (.cons rfl (.cons rfl (.cons rfl (.cons rfl (.cons rfl (.cons rfl (.cons rfl (.cons rfl (.cons rfl (.cons rfl (.nil _)))))))))))))) ?_
        refine at_fmap (h := 21) 21 rfl (fun w1 hh => hx21.rd w1 hh) hx21.blk hx21.nil ?_
        refine cd_region ?_
        refine st (ev_move rfl) rfl rfl rfl ?_
        refine st (ev_add64 rfl rfl (by omega) (by omega)) rfl rfl rfl ?_
        refine st (ev_assign rfl) rfl rfl rfl ?_
        refine op_nil ?_
        exact at_again ((i + 1, x21, v23)) (⟨by show i + 1 ≤ 36; omega, hi.2.trans hx21⟩) (by omega) (.cons rfl (.cons rfl (.cons rfl (.cons rfl (.nil _))))) (.cons rfl (.cons rfl (.cons rfl (.cons rfl (.nil _))))) (.cons rfl (.nil _))
  ·
    obtain rfl : i = 36 := by omega
    obtain ⟨r36, hr36⟩ : ∃ r, r = Ky.restS (Kb.r1 l) 36 := ⟨_, rfl⟩
    obtain ⟨d36, hd36⟩ : ∃ d, d = Ky.badS (false || Rr.nBad l) (Kb.r1 l) 36 := ⟨_, rfl⟩
    have hd0 : d36 = true → r36 = [] := by rw [hd36, hr36]; exact fun hh => Kb.badS_rest (fun hb1 => Rr.nRest_no (by simpa using hb1)) hh
    have hl36 : r36.length ≤ l.length := by rw [hr36]; omega
    have hua : Rr.Und p l rv r36 := by rw [hr36]; exact hi.2
    have hu36 := Kb.dcs_h32 l
    refine at_heq (i := 10) (v' := .blk (b10) (.cells ([rv, .bool (d36)]).toArray 102)) rfl (by rw [hd36]) ?_
    refine at_heq (i := 101) (v' := .own (ua) 39 32 (flat (Kb.dcs l))) rfl (by rw [Kb.dcs]) ?_
    refine at_fmap (h := 21) 21 rfl (fun w1 hh => (by rw [hr36]; exact hh : Rd w1 rv 1 (ints .u8 r36))) (fun _ hh => hh) (fun hh => by rw [hr36]; exact hh) ?_
    refine at_own_shape (h := 101) rfl (fun hsa => ?_)
    refine cd_exit ?_
    refine ax_then_exit ?_
    refine ax_then_exit ?_
    refine ax_block_hit ?_
    refine ax_then ?_
    refine At.regs (L' := [(2, _), (4, _), (5, _)]) (.cons rfl (.cons rfl (.cons rfl (.nil _)))) ?_
    refine cd_seq ?_
    refine cd_seq ?_
    refine cd_region ?_
    refine st (ev_assign rfl) rfl rfl rfl ?_
    refine op_nil ?_
    refine ax_then ?_
    refine At.regs (L' := [(2, _), (4, _), (5, _), (7, _)]) (.cons rfl (.cons rfl (.cons rfl (.cons rfl (.nil _))))) ?_
    refine cd_block ?_
    refine at_own_nil 102 39 32 ?_
    refine at_heq (i := 102) (v' := .own (.slice none 0 0) 39 32 (flat (Ky.hashS r36 0))) rfl rfl ?_
    refine cd_loop (ι := Nat × Value × Value) (fun x => x.1 ≤ 4 ∧ Rr.Und p l x.2.1 (Ky.restS r36 x.1)) (fun x => 4 - x.1)
        (fun x => [(2, .pointer (some ⟨b2, 0, none⟩)), (4, .pointer (some ⟨b10, 0, none⟩)), (5, .pointer (some ⟨b5, 0, none⟩)), (7, .int .i64 (x.1 : Int))])
        (fun x => [(2, .blk (b2) (.cells ([.int .i64 0, .slice none 0 0, .slice none 0 0]).toArray 42)), (5, .blk (b5) (.cells ([.int .i64 (Rr.nVal l), ua, x.2.2]).toArray 42)), (10, .blk (b10) (.cells ([x.2.1, .bool (Ky.badS d36 r36 x.1)]).toArray 102)), (101, .own (ua) 39 32 (flat (Kb.dcs l))), (102, .own (x.2.2) 39 32 (flat (Ky.hashS r36 x.1)))])
        (fun x => [(21, .sl x.2.1 1 (ints .u8 (Ky.restS r36 x.1)))])
        (0, rv, .slice none 0 0) (⟨by omega, hua⟩) (.cons rfl (.cons rfl (.cons rfl (.cons rfl (.nil _))))) (.cons rfl (.cons rfl (.cons rfl (.cons rfl (.cons rfl (.nil _)))))) (.cons rfl (.nil _)) (fun x hi => ?_)
    obtain ⟨i, rv, ub⟩ := x
    dsimp only at hi ⊢
    have hi1 := hi.1
    have hu2 := Ky.hashS_h32 r36 i
    have hn2 := Ky.hashS_len r36 i
    have hhl := Ky.hashOf_len (Ky.restS r36 i)
    refine cd_seq ?_
    refine cd_seq ?_
    refine cd_region ?_
    refine st (ev_move rfl) rfl rfl rfl ?_
    refine st (ev_lss rfl rfl) rfl rfl rfl ?_
    refine op_nil ?_
    refine ax_then ?_
    refine At.regs (L' := [(2, _), (4, _), (5, _), (7, _), (25, _), (26, _)]) (.cons rfl (.cons rfl (.cons rfl (.cons rfl (.cons rfl (.cons rfl (.nil _))))))) ?_
    refine cd_if rfl (fun hc26 => ?_) (fun hc26 => ?_)
    ·
      refine cd_skip ?_
      refine ax_then ?_
      refine At.regs (L' := [(2, _), (4, _), (5, _), (7, _), (25, _), (26, _)]) (.cons rfl (.cons rfl (.cons rfl (.cons rfl (.cons rfl (.cons rfl (.nil _))))))) ?_
      refine cd_seq ?_
      refine cd_block ?_
      refine cd_mix hmix ?_
      refine mx (i := 0) rfl (by decide +kernel) (by decide +kernel) (by decide +kernel) rfl (fun w0 => ev_fieldAddr (b := _) Try.underlying42 (f := _) rfl ty26 (by decide) rfl) rfl rfl (Sub.refl _) ?_
      refine mx (i := 2) rfl (by decide +kernel) (by decide +kernel) (by decide +kernel) rfl (fun w0 => ev_move rfl) rfl rfl (Sub.refl _) ?_
      refine mx_two (i := 1) (j := 3) (by decide +kernel) (Sub.refl _) ?_ ?_
      ·
        refine wo (i := 1) rfl ?_
        refine st (ld_blk1 (h := 5) ty26 rfl rfl rfl rfl) rfl rfl rfl ?_
        refine op_nil ?_
        refine ax_then ?_
        refine mx_one (i := 3) (by decide +kernel) (Sub.refl _) ?_
        refine wo (i := 3) rfl ?_
        refine st_call has71 rfl (fun w1 sw => rn 10 (qhash_any b10 rv (Ky.badS d36 r36 i) (Ky.restS r36 i) w1 (sw.blk_eq (h := 10) rfl) (sw.sl_rd (h := 21) rfl) (sw.off 21 _ 10 _ rfl rfl _ (by simp [Ent.ids])) (by have := Ky.restS_le r36 i; omega) (fun hh => Kb.badS_rest hd0 hh))) (mod_blk rfl) rfl rfl (fun x32 hx32 => ?_)
        refine op_nil ?_
        refine ax_then ?_
        refine mx_one (i := 4) (by decide +kernel) (Sub.refl _) ?_
        refine wo (i := 4) rfl ?_
        refine st_bsh1 (h := 33) Try.underlying26 ty39 rfl (by assumption) rfl rfl (fun b33 hu33 => ?_)
        refine op_nil ?_
        refine ax_then ?_
        refine mx_one (i := 5) (by decide +kernel) (Sub.refl _) ?_
        refine wo (i := 5) rfl ?_
        refine st_appendh (h := 102) Try.underlying26 Try.underlying26 ty39 rfl rfl rfl rfl (fun w1 sw => sw.own_rd (h := 33) rfl) hu2 hu33 (by simp only [List.length_cons, List.length_nil]; omega) (by decide) rfl rfl (fun v34 hu34 => ?_)
        refine at_heq (i := 102) (v' := .own (v34) 39 32 (flat (Ky.hashS r36 (i + 1)))) rfl rfl ?_
        refine at_own_shape (h := 102) rfl (fun hs34 => ?_)
        refine op_nil ?_
        refine ax_then ?_
        refine mx (i := 6) rfl (by decide +kernel) (by decide +kernel) (by decide +kernel) rfl (fun w0 => ev_fieldAddr (b := _) Try.underlying42 (f := _) rfl ty26 (by decide) rfl) rfl rfl (Sub.refl _) ?_
        refine mx_one (i := 7) (by decide +kernel) (Sub.refl _) ?_
        refine wo (i := 7) rfl ?_
        refine st_store1 5 ty26 rfl rfl rfl hs34.2 (show 2 < 3 from by decide) rfl ?_
        refine at_heq (i := 5) (v' := .blk (b5) (.cells ([.int .i64 (Rr.nVal l), ua, v34]).toArray 42)) rfl rfl ?_
        refine op_nil ?_
        refine ax_then ?_
        refine mx_done (by decide +kernel) (Sub.refl _) ?_
        refine ax_block ?_
        refine ax_then ?_
        refine At.regs (L' := [(2, _), (4, _), (5, _), (7, _), (25, _), (26, _), (29, _), (30, _), (31, _), (32, _), (33, _), (34, _), (35, _)]) (.cons rfl (.cons rfl (.cons rfl (.cons rfl (.cons rfl (.cons rfl (.cons rfl (.cons rfl (.cons rfl (.cons rfl (.cons rfl (.cons rfl (.cons rfl (.nil _)))))))))))))) ?_
        refine at_fmap (h := 21) 21 rfl (fun w1 hh => hx32.rd w1 hh) hx32.blk hx32.nil ?_
        refine cd_region ?_
        refine st (ev_move rfl) rfl rfl rfl ?_
        refine st (ev_add64 rfl rfl (by omega) (by omega)) rfl rfl rfl ?_
        refine st (ev_assign rfl) rfl rfl rfl ?_
        refine op_nil ?_
        exact at_again ((i + 1, x32, v34)) (⟨by show i + 1 ≤ 4; omega, hi.2.trans hx32⟩) (by omega) (.cons rfl (.cons rfl (.cons rfl (.cons rfl (.nil _))))) (.cons rfl (.cons rfl (.cons rfl (.cons rfl (.cons rfl (.nil _)))))) (.cons rfl (.nil _))
      ·
        refine wo (i := 3) rfl ?_
        refine st_call has71 rfl (fun w1 sw => rn 10 (qhash_any b10 rv (Ky.badS d36 r36 i) (Ky.restS r36 i) w1 (sw.blk_eq (h := 10) rfl) (sw.sl_rd (h := 21) rfl) (sw.off 21 _ 10 _ rfl rfl _ (by simp [Ent.ids])) (by have := Ky.restS_le r36 i; omega) (fun hh => Kb.badS_rest hd0 hh))) (mod_blk rfl) rfl rfl (fun x32 hx32 => ?_)
        refine op_nil ?_
        refine ax_then ?_
        refine mx_two (i := 1) (j := 4) (by decide +kernel) (Sub.refl _) ?_ ?_
        ·
          refine wo (i := 1) rfl ?_
          refine st (ld_blk1 (h := 5) ty26 rfl rfl rfl rfl) rfl rfl rfl ?_
          refine op_nil ?_
          refine ax_then ?_
          refine mx_one (i := 4) (by decide +kernel) (Sub.refl _) ?_
          refine wo (i := 4) rfl ?_
          refine st_bsh1 (h := 33) Try.underlying26 ty39 rfl (by assumption) rfl rfl (fun b33 hu33 => ?_)
          refine op_nil ?_
          refine ax_then ?_
          refine mx_one (i := 5) (by decide +kernel) (Sub.refl _) ?_
          refine wo (i := 5) rfl ?_
          refine st_appendh (h := 102) Try.underlying26 Try.underlying26 ty39 rfl rfl rfl rfl (fun w1 sw => sw.own_rd (h := 33) rfl) hu2 hu33 (by simp only [List.length_cons, List.length_nil]; omega) (by decide) rfl rfl (fun v34 hu34 => ?_)
          refine at_heq (i := 102) (v' := .own (v34) 39 32 (flat (Ky.hashS r36 (i + 1)))) rfl rfl ?_
          refine at_own_shape (h := 102) rfl (fun hs34 => ?_)
          refine op_nil ?_
          refine ax_then ?_
          refine mx (i := 6) rfl (by decide +kernel) (by decide +kernel) (by decide +kernel) rfl (fun w0 => ev_fieldAddr (b := _) Try.underlying42 (f := _) rfl ty26 (by decide) rfl) rfl rfl (Sub.refl _) ?_
          refine mx_one (i := 7) (by decide +kernel) (Sub.refl _) ?_
          refine wo (i := 7) rfl ?_
          refine st_store1 5 ty26 rfl rfl rfl hs34.2 (show 2 < 3 from by decide) rfl ?_
          refine at_heq (i := 5) (v' := .blk (b5) (.cells ([.int .i64 (Rr.nVal l), ua, v34]).toArray 42)) rfl rfl ?_
          refine op_nil ?_
          refine ax_then ?_
          refine mx_done (by decide +kernel) (Sub.refl _) ?_
          refine ax_block ?_
          refine ax_then ?_
          refine At.regs (L' := [(2, _), (4, _), (5, _), (7, _), (25, _), (26, _), (29, _), (30, _), (31, _), (32, _), (33, _), (34, _), (35, _)]) (.cons rfl (.cons rfl (.cons rfl (.cons rfl (.cons rfl (.cons rfl (.cons rfl (.cons rfl (.cons rfl (.cons rfl (.cons rfl (.cons rfl (.cons rfl (.nil _)))))))))))))) ?_
          refine at_fmap (h := 21) 21 rfl (fun w1 hh => hx32.rd w1 hh) hx32.blk hx32.nil ?_
          refine cd_region ?_
          refine st (ev_move rfl) rfl rfl rfl ?_
          refine st (ev_add64 rfl rfl (by omega) (by omega)) rfl rfl rfl ?_
          refine st (ev_assign rfl) rfl rfl rfl ?_
          refine op_nil ?_
          exact at_again ((i + 1, x32, v34)) (⟨by show i + 1 ≤ 4; omega, hi.2.trans hx32⟩) (by omega) (.cons rfl (.cons rfl (.cons rfl (.cons rfl (.nil _))))) (.cons rfl (.cons rfl (.cons rfl (.cons rfl (.cons rfl (.nil _)))))) (.cons rfl (.nil _))
        ·
          refine wo (i := 4) rfl ?_
          refine st_bsh1 (h := 33) Try.underlying26 ty39 rfl (by assumption) rfl rfl (fun b33 hu33 => ?_)
          refine op_nil ?_
          refine ax_then ?_
          refine mx_one (i := 1) (by decide +kernel) (Sub.refl _) ?_
          refine wo (i := 1) rfl ?_
          refine st (ld_blk1 (h := 5) ty26 rfl rfl rfl rfl) rfl rfl rfl ?_
          refine op_nil ?_
          refine ax_then ?_
          refine mx_one (i := 5) (by decide +kernel) (Sub.refl _) ?_
          refine wo (i := 5) rfl ?_
          refine st_appendh (h := 102) Try.underlying26 Try.underlying26 ty39 rfl rfl rfl rfl (fun w1 sw => sw.own_rd (h := 33) rfl) hu2 hu33 (by simp only [List.length_cons, List.length_nil]; omega) (by decide) rfl rfl (fun v34 hu34 => ?_)
          refine at_heq (i := 102) (v' := .own (v34) 39 32 (flat (Ky.hashS r36 (i + 1)))) rfl rfl ?_
          refine at_own_shape (h := 102) rfl (fun hs34 => ?_)
          refine op_nil ?_
          refine ax_then ?_
          refine mx (i := 6) rfl (by decide +kernel) (by decide +kernel) (by decide +kernel) rfl (fun w0 => ev_fieldAddr (b := _) Try.underlying42 (f := _) rfl ty26 (by decide) rfl) rfl rfl (Sub.refl _) ?_
          refine mx_one (i := 7) (by decide +kernel) (Sub.refl _) ?_
          refine wo (i := 7) rfl ?_
          refine st_store1 5 ty26 rfl rfl rfl hs34.2 (show 2 < 3 from by decide) rfl ?_
          refine at_heq (i := 5) (v' := .blk (b5) (.cells ([.int .i64 (Rr.nVal l), ua, v34]).toArray 42)) rfl rfl ?_
          refine op_nil ?_
          refine ax_then ?_
          refine mx_done (by decide +kernel) (Sub.refl _) ?_
          refine ax_block ?_
          refine ax_then ?_
          refine At.regs (L' := [(2, _), (4, _), (5, _), (7, _), (25, _), (26, _), (29, _), (30, _), (31, _), (32, _), (33, _), (34, _), (35, _)]) (.cons rfl (.cons rfl (.cons rfl (.cons rfl (.cons rfl (.cons rfl (.cons rfl (.cons rfl (.cons rfl (.cons rfl (.cons rfl (.cons rfl (.cons rfl (.nil _)))))))))))))) ?_
          refine at_fmap (h := 21) 21 rfl (fun w1 hh => hx32.rd w1 hh) hx32.blk hx32.nil ?_
          refine cd_region ?_
          refine st (ev_move rfl) rfl rfl rfl ?_
          refine st (ev_add64 rfl rfl (by omega) (by omega)) rfl rfl rfl ?_
          refine st (ev_assign rfl) rfl rfl rfl ?_
          refine op_nil ?_
          exact at_again ((i + 1, x32, v34)) (⟨by show i + 1 ≤ 4; omega, hi.2.trans hx32⟩) (by omega) (.cons rfl (.cons rfl (.cons rfl (.cons rfl (.nil _))))) (.cons rfl (.cons rfl (.cons rfl (.cons rfl (.cons rfl (.nil _)))))) (.cons rfl (.nil _))
    ·
      obtain rfl : i = 4 := by omega
      have hu4 := Kb.dps_h32 l
      refine at_heq (i := 102) (v' := .own (ub) 39 32 (flat (Kb.dps l))) rfl (by rw [Kb.dps, hr36]) ?_
      refine at_own_shape (h := 102) rfl (fun hsb => ?_)
      refine cd_exit ?_
      refine ax_then_exit ?_
      refine ax_then_exit ?_
      refine ax_block_hit ?_
      refine ax_then ?_
      refine At.regs (L' := [(2, _), (4, _), (5, _)]) (.cons rfl (.cons rfl (.cons rfl (.nil _)))) ?_
      refine cd_seq ?_
      refine cd_seq ?_
      refine cd_region ?_
      refine st (ev_move rfl) rfl rfl rfl ?_
      refine st_callv has72 rfl (fun w1 sw => qwhole_any b10 rv (Ky.badS d36 r36 4) (Ky.restS r36 4) w1 (lies_blk (sw.blk_eq (h := 10) rfl)) (sw.sl_rd (h := 21) rfl)) rfl rfl ?_
      refine at_eq (i := 37) (v' := .bool (decide (Kb.whole l))) rfl (by rw [hd36, hr36, Kb.whole_eq]) ?_
      refine st (ev_not_if rfl) rfl rfl rfl ?_
      refine st (ev_move rfl) rfl rfl rfl ?_
      refine at_eq (i := 39) (v' := .bool false) rfl (by simp only [Value.bool.injEq, decide_eq_true_eq, decide_eq_false_iff_not]; exact fun h => h hk.1) ?_
      refine st (ld_blk_all (h := 5) ty42 rfl rfl rfl rfl) rfl rfl rfl ?_
      refine st_callv has34 rfl (fun w1 sw => risSig_any (Rr.nVal l) ua ub (Kb.dcs l) (Kb.dps l) w1 hu36 hu4 (sw.own_rd (h := 101) rfl) (sw.own_rd (h := 102) rfl)) rfl rfl ?_
      refine st (ev_not_if rfl) rfl rfl rfl ?_
      refine st (ev_pick_f rfl rfl) rfl rfl rfl ?_
      refine op_nil ?_
      refine ax_then ?_
      refine At.regs (L' := [(2, _), (5, _), (43, _)]) (.cons rfl (.cons rfl (.cons rfl (.nil _)))) ?_
      refine cd_if_f rfl (fun h => h hk.2) ?_
      refine cd_skip ?_
      refine ax_then ?_
      refine At.regs (L' := [(2, _), (5, _)]) (.cons rfl (.cons rfl (.nil _))) ?_
      refine cd_seq ?_
      refine cd_region ?_
      refine st (ld_blk_all (h := 5) ty42 rfl rfl rfl rfl) rfl rfl rfl ?_
      refine at_eq (i := 45) (v' := .agg (List.toArray [.int .i64 (Rr.nVal l), ua, ub])) rfl rfl ?_
      refine st_store_all 2 ty42 rfl rfl rfl rfl rfl (by intro u hu; simp at hu; rcases hu with rfl | rfl | rfl; rfl; exact hsa.2; exact hsb.2) rfl rfl ?_
      refine st (ev_assign rfl) rfl rfl rfl ?_
      refine op_nil ?_
      refine ax_then ?_
      refine At.regs (L' := [(2, _), (3, _)]) (.cons rfl (.cons rfl (.nil _))) ?_
      refine cd_ret ?_
      refine rt_cell_tmp (h0 := 2) (.inl rfl) Try.results42 ty42 rfl rfl rfl (by first | omega | (simp only [List.length_append, List.length_cons, List.length_nil, List.length_set, List.length_replicate, List.length_take, List.length_drop, ints_length, wr_length, sha_len, node_len, recov_len, Ky.named_len, Ky.keyPub_len, Ky.hashOf_len] <;> omega) | rfl) rfl ?_
      exact fun w1 sw => ⟨(ua, ub), trivial, rfl, (sw.gives (N := [(101, _), (102, _)]) (.cons rfl (.cons rfl (.nil _)))).rn2 (by decide) 0 1⟩
set_option maxRecDepth 20000 in
set_option maxHeartbeats 8000000 in
theorem qdecode_no (p : Value) (l : List Int) (w : World) (hl : l.length ≤ 140737488352000) (hb : Byt l) (h : Rd w p 1 (ints .u8 l)) (hk : ¬ Kb.ok l) : Calls Try.prog 42 #[p] w (PostV w (.tuple #[.agg (List.toArray [.int .i64 0, .slice none 0 0, .slice none 0 0]), .int .i64 2])) := by
  have hsp := rd_shape h
  have hrl := Rr.nRest_len l
  have hr1 : (Kb.r1 l).length ≤ l.length := hrl
  have hr2 := Ky.restS_le (Kb.r1 l) 36
  refine calls_at (vs := [p]) (X := []) (H := []) (F := [(21, .sl (p) 1 (ints .u8 (l)))]) 46 Try.func42 rfl rfl rfl (Sat.rd0 21 h) ?_
  refine cd_seq ?_
  refine cd_region ?_
  refine st_alloc (h := 2) ty42 rfl rfl rfl (fun b2 => ?_)
  refine st (ev_assign rfl) rfl rfl rfl ?_
  refine op_nil ?_
  refine ax_then ?_
  refine At.regs (L' := [(0, _), (2, _), (3, _)]) (.cons rfl (.cons rfl (.cons rfl (.nil _)))) ?_
  refine cd_seq ?_
  refine cd_region ?_
  refine st (ev_move rfl) rfl rfl rfl ?_
  refine st (ev_build_struct ty102 rfl pl102 rfl ((fill_put (i := 0) (off := 0) (n := 1) (vs := [p]) rfl hsp.1 rfl (Nat.le_of_ble_eq_true rfl)).trans fill_nil)) rfl rfl rfl ?_
  refine at_eq (i := 9) (v' := .agg (List.toArray [p, .bool false])) rfl rfl ?_
  refine st_box (h := 10) rfl rfl rfl rfl (fun b10 => ?_)
  refine st (ev_assign rfl) rfl rfl rfl ?_
  refine op_nil ?_
  refine ax_then ?_
  refine At.regs (L' := [(2, _), (3, _), (4, _)]) (.cons rfl (.cons rfl (.cons rfl (.nil _)))) ?_
  refine cd_seq ?_
  refine cd_region ?_
  refine st (ev_move rfl) rfl rfl rfl ?_
  refine st_call has70 rfl (fun w1 sw => rn 10 (qrnum_g b10 p false l w1 (sw.blk_eq (h := 10) rfl) (sw.sl_rd (h := 21) rfl) (sw.off 21 _ 10 _ rfl rfl _ (by simp [Ent.ids])) (by omega) (fun hh => by cases hh) hb)) (mod_blk rfl) rfl rfl (fun x12 hx12 => ?_)
  refine at_fmap (h := 21) 21 rfl (fun w1 hh => hx12.rd w1 hh) hx12.blk hx12.nil ?_
  refine st (ev_build_struct ty42 rfl pl42 rfl ((fill_put (i := 0) (off := 0) (n := 1) (vs := [.int .i64 (Rr.nVal l)]) rfl rfl rfl (Nat.le_of_ble_eq_true rfl)).trans fill_nil)) rfl rfl rfl ?_
  refine at_eq (i := 13) (v' := .agg (List.toArray [.int .i64 (Rr.nVal l), .slice none 0 0, .slice none 0 0])) rfl rfl ?_
  refine st_alloc (h := 5) ty42 rfl rfl rfl (fun b5 => ?_)
  refine st_store_all 5 ty42 rfl rfl rfl rfl rfl (by intro u hu; simp at hu; rcases hu with rfl | rfl | rfl <;> rfl) rfl rfl ?_
  refine op_nil ?_
  refine ax_then ?_
  refine At.regs (L' := [(2, _), (3, _), (4, _), (5, _)]) (.cons rfl (.cons rfl (.cons rfl (.cons rfl (.nil _))))) ?_
  refine cd_seq ?_
  refine cd_seq ?_
  refine cd_region ?_
  refine st (ev_assign rfl) rfl rfl rfl ?_
  refine op_nil ?_
  refine ax_then ?_
  refine At.regs (L' := [(2, _), (3, _), (4, _), (5, _), (6, _)]) (.cons rfl (.cons rfl (.cons rfl (.cons rfl (.cons rfl (.nil _)))))) ?_
  refine cd_block ?_
  refine at_own_nil 101 39 32 ?_
  refine at_heq (i := 101) (v' := .own (.slice none 0 0) 39 32 (flat (Ky.hashS (Kb.r1 l) 0))) rfl rfl ?_
  refine cd_loop (ι := Nat × Value × Value) (fun x => x.1 ≤ 36 ∧ Rr.Und p l x.2.1 (Ky.restS (Kb.r1 l) x.1)) (fun x => 36 - x.1)
      (fun x => [(2, .pointer (some ⟨b2, 0, none⟩)), (4, .pointer (some ⟨b10, 0, none⟩)), (5, .pointer (some ⟨b5, 0, none⟩)), (6, .int .i64 (x.1 : Int))])
      (fun x => [(2, .blk (b2) (.cells ([.int .i64 0, .slice none 0 0, .slice none 0 0]).toArray 42)), (5, .blk (b5) (.cells ([.int .i64 (Rr.nVal l), x.2.2, .slice none 0 0]).toArray 42)), (10, .blk (b10) (.cells ([x.2.1, .bool (Ky.badS (false || Rr.nBad l) (Kb.r1 l) x.1)]).toArray 102)), (101, .own (x.2.2) 39 32 (flat (Ky.hashS (Kb.r1 l) x.1)))])
      (fun x => [(21, .sl x.2.1 1 (ints .u8 (Ky.restS (Kb.r1 l) x.1)))])
      (0, x12, .slice none 0 0) (⟨by omega, hx12⟩) (.cons rfl (.cons rfl (.cons rfl (.cons rfl (.nil _))))) (.cons rfl (.cons rfl (.cons rfl (.cons rfl (.nil _))))) (.cons rfl (.nil _)) (fun x hi => ?_)
  obtain ⟨i, rv, ua⟩ := x
  dsimp only at hi ⊢
  have hi1 := hi.1
  have hu1 := Ky.hashS_h32 (Kb.r1 l) i
  have hn1 := Ky.hashS_len (Kb.r1 l) i
  have hhl := Ky.hashOf_len (Ky.restS (Kb.r1 l) i)
  refine cd_seq ?_
  refine cd_seq ?_
  refine cd_region ?_
  refine st (ev_move rfl) rfl rfl rfl ?_
  refine st (ev_lss rfl rfl) rfl rfl rfl ?_
  refine op_nil ?_
  refine ax_then ?_
  refine At.regs (L' := [(2, _), (4, _), (5, _), (6, _), (14, _), (15, _)]) (.cons rfl (.cons rfl (.cons rfl (.cons rfl (.cons rfl (.cons rfl (.nil _))))))) ?_
  refine cd_if rfl (fun hc15 => ?_) (fun hc15 => ?_)
  ·
    refine cd_skip ?_
    refine ax_then ?_
    refine At.regs (L' := [(2, _), (4, _), (5, _), (6, _), (14, _), (15, _)]) (.cons rfl (.cons rfl (.cons rfl (.cons rfl (.cons rfl (.cons rfl (.nil _))))))) ?_
    refine cd_seq ?_
    refine cd_block ?_
    refine cd_mix hmix ?_
    refine mx (i := 0) rfl (by decide +kernel) (by decide +kernel) (by decide +kernel) rfl (fun w0 => ev_fieldAddr (b := _) Try.underlying42 (f := _) rfl ty26 (by decide) rfl) rfl rfl (Sub.refl _) ?_
    refine mx (i := 2) rfl (by decide +kernel) (by decide +kernel) (by decide +kernel) rfl (fun w0 => ev_move rfl) rfl rfl (Sub.refl _) ?_
    refine mx_two (i := 1) (j := 3) (by decide +kernel) (Sub.refl _) ?_ ?_
    ·
      refine wo (i := 1) rfl ?_
      refine st (ld_blk1 (h := 5) ty26 rfl rfl rfl rfl) rfl rfl rfl ?_
      refine op_nil ?_
      refine ax_then ?_
      refine mx_one (i := 3) (by decide +kernel) (Sub.refl _) ?_
      refine wo (i := 3) rfl ?_
      refine st_call has71 rfl (fun w1 sw => rn 10 (qhash_any b10 rv (Ky.badS (false || Rr.nBad l) (Kb.r1 l) i) (Ky.restS (Kb.r1 l) i) w1 (sw.blk_eq (h := 10) rfl) (sw.sl_rd (h := 21) rfl) (sw.off 21 _ 10 _ rfl rfl _ (by simp [Ent.ids])) (by have := Ky.restS_le (Kb.r1 l) i; omega) (fun hh => Kb.badS_rest (fun hb1 => Rr.nRest_no (by simpa using hb1)) hh))) (mod_blk rfl) rfl rfl (fun x21 hx21 => ?_)
      refine op_nil ?_
      refine ax_then ?_
      refine mx_one (i := 4) (by decide +kernel) (Sub.refl _) ?_
      refine wo (i := 4) rfl ?_
      refine st_bsh1 (h := 22) Try.underlying26 ty39 rfl (by assumption) rfl rfl (fun b22 hu22 => ?_)
      refine op_nil ?_
      refine ax_then ?_
      refine mx_one (i := 5) (by decide +kernel) (Sub.refl _) ?_
      refine wo (i := 5) rfl ?_
      refine st_appendh (h := 101) Try.underlying26 Try.underlying26 ty39 rfl rfl rfl rfl (fun w1 sw => sw.own_rd (h := 22) rfl) hu1 hu22 (by simp only [List.length_cons, List.length_nil]; omega) (by decide) rfl rfl (fun v23 hu23 => ?_)
      refine at_heq (i := 101) (v' := .own (v23) 39 32 (flat (Ky.hashS (Kb.r1 l) (i + 1)))) rfl rfl ?_
      refine at_own_shape (h := 101) rfl (fun hs23 => ?_)
      refine op_nil ?_
      refine ax_then ?_
      refine mx (i := 6) rfl (by decide +kernel) (by decide +kernel) (by decide +kernel) rfl (fun w0 => ev_fieldAddr (b := _) Try.underlying42 (f := _) rfl ty26 (by decide) rfl) rfl rfl (Sub.refl _) ?_
      refine mx_one (i := 7) (by decide +kernel) (Sub.refl _) ?_
      refine wo (i := 7) rfl ?_
      refine st_store1 5 ty26 rfl rfl rfl hs23.2 (show 1 < 3 from by decide) rfl ?_
      refine at_heq (i := 5) (v' := .blk (b5) (.cells ([.int .i64 (Rr.nVal l), v23, .slice none 0 0]).toArray 42)) rfl rfl ?_
      refine op_nil ?_
      refine ax_then ?_
      refine mx_done (by decide +kernel) (Sub.refl _) ?_
      refine ax_block ?_
      refine ax_then ?_
      refine At.regs (L' := [(2, _), (4, _), (5, _), (6, _), (14, _), (15, _), (18, _), (19, _), (20, _), (21, _), (22, _), (23, _), (24, _)]) (.cons rfl (.cons rfl (.cons rfl (.cons rfl (.cons rfl (.cons rfl (.cons rfl (.cons rfl (.cons rfl (.cons rfl (.cons rfl (.cons rfl (.cons rfl (.nil _)))))))))))))) ?_
      refine at_fmap (h := 21) 21 rfl (fun w1 hh => hx21.rd w1 hh) hx21.blk hx21.nil ?_
      refine cd_region ?_
      refine st (ev_move rfl) rfl rfl rfl ?_
      refine st (ev_add64 rfl rfl (by omega) (by omega)) rfl rfl rfl ?_
      refine st (ev_assign rfl) rfl rfl rfl ?_
      refine op_nil ?_
      exact at_again ((i + 1, x21, v23)) (⟨by show i + 1 ≤ 36; omega, hi.2.trans hx21⟩) (by omega) (.cons rfl (.cons rfl (.cons rfl (.cons rfl (.nil _))))) (.cons rfl (.cons rfl (.cons rfl (.cons rfl (.nil _))))) (.cons rfl (.nil _))
    ·
      refine wo (i := 3) rfl ?_
      refine st_call has71 rfl (fun w1 sw => rn 10 (qhash_any b10 rv (Ky.badS (false || Rr.nBad l) (Kb.r1 l) i) (Ky.restS (Kb.r1 l) i) w1 (sw.blk_eq (h := 10) rfl) (sw.sl_rd (h := 21) rfl) (sw.off 21 _ 10 _ rfl rfl _ (by simp [Ent.ids])) (by have := Ky.restS_le (Kb.r1 l) i; omega) (fun hh => Kb.badS_rest (fun hb1 => Rr.nRest_no (by simpa using hb1)) hh))) (mod_blk rfl) rfl rfl (fun x21 hx21 => ?_)
      refine op_nil ?_
      refine ax_then ?_
      refine mx_two (i := 1) (j := 4) (by decide +kernel) (Sub.refl _) ?_ ?_
      ·
        refine wo (i := 1) rfl ?_
        refine st (ld_blk1 (h := 5) ty26 rfl rfl rfl rfl) rfl rfl rfl ?_
        refine op_nil ?_
        refine ax_then ?_
        refine mx_one (i := 4) (by decide +kernel) (Sub.refl _) ?_
        refine wo (i := 4) rfl ?_
        refine st_bsh1 (h := 22) Try.underlying26 ty39 rfl (by assumption) rfl rfl (fun b22 hu22 => ?_)
        refine op_nil ?_
        refine ax_then ?_
        refine mx_one (i := 5) (by decide +kernel) (Sub.refl _) ?_
        refine wo (i := 5) rfl ?_
        refine st_appendh (h := 101) Try.underlying26 Try.underlying26 ty39 rfl rfl rfl rfl (fun w1 sw => sw.own_rd (h := 22) rfl) hu1 hu22 (by simp only [List.length_cons, List.length_nil]; omega) (by decide) rfl rfl (fun v23 hu23 => ?_)
        refine at_heq (i := 101) (v' := .own (v23) 39 32 (flat (Ky.hashS (Kb.r1 l) (i + 1)))) rfl rfl ?_
        refine at_own_shape (h := 101) rfl (fun hs23 => ?_)
        refine op_nil ?_
        refine ax_then ?_
        refine mx (i := 6) rfl (by decide +kernel) (by decide +kernel) (by decide +kernel) rfl (fun w0 => ev_fieldAddr (b := _) Try.underlying42 (f := _) rfl ty26 (by decide) rfl) rfl rfl (Sub.refl _) ?_
        refine mx_one (i := 7) (by decide +kernel) (Sub.refl _) ?_
        refine wo (i := 7) rfl ?_
        refine st_store1 5 ty26 rfl rfl rfl hs23.2 (show 1 < 3 from by decide) rfl ?_
        refine at_heq (i := 5) (v' := .blk (b5) (.cells ([.int .i64 (Rr.nVal l), v23, .slice none 0 0]).toArray 42)) rfl rfl ?_
        refine op_nil ?_
        refine ax_then ?_
        refine mx_done (by decide +kernel) (Sub.refl _) ?_
        refine ax_block ?_
        refine ax_then ?_
        refine At.regs (L' := [(2, _), (4, _), (5, _), (6, _), (14, _), (15, _), (18, _), (19, _), (20, _), (21, _), (22, _), (23, _), (24, _)]) (.cons rfl (.cons rfl (.cons rfl (.cons rfl (.cons rfl (.cons rfl (.cons rfl (.cons rfl (.cons rfl (.cons rfl (.cons rfl (.cons rfl (.cons rfl (.nil _)))))))))))))) ?_
        refine at_fmap (h := 21) 21 rfl (fun w1 hh => hx21.rd w1 hh) hx21.blk hx21.nil ?_
        refine cd_region ?_
        refine st (ev_move rfl) rfl rfl rfl ?_
        refine st (ev_add64 rfl rfl (by omega) (by omega)) rfl rfl rfl ?_
        refine st (ev_assign rfl) rfl rfl rfl ?_
        refine op_nil ?_
        exact at_again ((i + 1, x21, v23)) (⟨by show i + 1 ≤ 36; omega, hi.2.trans hx21⟩) (by omega) (.cons rfl (.cons rfl (.cons rfl (.cons rfl (.nil _))))) (.cons rfl (.cons rfl (.cons rfl (.cons rfl (.nil _))))) (.cons rfl (.nil _))
      ·
        refine wo (i := 4) rfl ?_
        refine st_bsh1 (h := 22) Try.underlying26 ty39 rfl (by assumption) rfl rfl (fun b22 hu22 => ?_)
        refine op_nil ?_
        refine ax_then ?_
        refine mx_one (i := 1) (by decide +kernel) (Sub.refl _) ?_
        refine wo (i := 1) rfl ?_
        refine st (ld_blk1 (h := 5) ty26 rfl rfl rfl rfl) rfl rfl rfl ?_
        refine op_nil ?_
        refine ax_then ?_
        refine mx_one (i := 5) (by decide +kernel) (Sub.refl _) ?_
        refine wo (i := 5) rfl ?_
        refine st_appendh (h := 101) Try.underlying26 Try.underlying26 ty39 rfl rfl rfl rfl (fun w1 sw => sw.own_rd (h := 22) rfl) hu1 hu22 (by simp only [List.length_cons, List.length_nil]; omega) (by decide) rfl rfl (fun v23 hu23 => ?_)
        refine at_heq (i := 101) (v' := .own (v23) 39 32 (flat (Ky.hashS (Kb.r1 l) (i + 1)))) rfl rfl ?_
        refine at_own_shape (h := 101) rfl (fun hs23 => ?_)
        refine op_nil ?_
        refine ax_then ?_
        refine mx (i := 6) rfl (by decide +kernel) (by decide +kernel) (by decide +kernel) rfl (fun w0 => ev_fieldAddr (b := _) Try.underlying42 (f := _) rfl ty26 (by decide) rfl) rfl rfl (Sub.refl _) ?_
        refine mx_one (i := 7) (by decide +kernel) (Sub.refl _) ?_
        refine wo (i := 7) rfl ?_
        refine st_store1 5 ty26 rfl rfl rfl hs23.2 (show 1 < 3 from by decide) rfl ?_
        refine at_heq (i := 5) (v' := .blk (b5) (.cells ([.int .i64 (Rr.nVal l), v23, .slice none 0 0]).toArray 42)) rfl rfl ?_
        refine op_nil ?_
        refine ax_then ?_
        refine mx_done (by decide +kernel) (Sub.refl _) ?_
        refine ax_block ?_
        refine ax_then ?_
        refine At.regs (L' := [(2, _), (4, _), (5, _), (6, _), (14, _), (15, _), (18, _), (19, _), (20, _), (21, _), (22, _), (23, _), (24, _)]) (.cons rfl (.cons rfl (.cons rfl (.cons rfl (.cons rfl (.cons rfl (.cons rfl (.cons rfl (.cons rfl (.cons rfl (.cons rfl (.cons rfl (.cons rfl (.nil _)))))))))))))) ?_
        refine at_fmap (h := 21) 21 rfl (fun w1 hh => hx21.rd w1 hh) hx21.blk hx21.nil ?_
        refine cd_region ?_
        refine st (ev_move rfl) rfl rfl rfl ?_
        refine st (ev_add64 rfl rfl (by omega) (by omega)) rfl rfl rfl ?_
        refine st (ev_assign rfl) rfl rfl rfl ?_
        refine op_nil ?_
        exact at_again ((i + 1, x21, v23)) (⟨by show i + 1 ≤ 36; omega, hi.2.trans hx21⟩) (by omega) (.cons rfl (.cons rfl (.cons rfl (.cons rfl (.nil _))))) (.cons rfl (.cons rfl (.cons rfl (.cons rfl (.nil _))))) (.cons rfl (.nil _))
  ·
    obtain rfl : i = 36 := by omega
    obtain ⟨r36, hr36⟩ : ∃ r, r = Ky.restS (Kb.r1 l) 36 := ⟨_, rfl⟩
    obtain ⟨d36, hd36⟩ : ∃ d, d = Ky.badS (false || Rr.nBad l) (Kb.r1 l) 36 := ⟨_, rfl⟩
    have hd0 : d36 = true → r36 = [] := by rw [hd36, hr36]; exact fun hh => Kb.badS_rest (fun hb1 => Rr.nRest_no (by simpa using hb1)) hh
    have hl36 : r36.length ≤ l.length := by rw [hr36]; omega
    have hua : Rr.Und p l rv r36 := by rw [hr36]; exact hi.2
    have hu36 := Kb.dcs_h32 l
    refine at_heq (i := 10) (v' := .blk (b10) (.cells ([rv, .bool (d36)]).toArray 102)) rfl (by rw [hd36]) ?_
    refine at_heq (i := 101) (v' := .own (ua) 39 32 (flat (Kb.dcs l))) rfl (by rw [Kb.dcs]) ?_
    refine at_fmap (h := 21) 21 rfl (fun w1 hh => (by rw [hr36]; exact hh : Rd w1 rv 1 (ints .u8 r36))) (fun _ hh => hh) (fun hh => by rw [hr36]; exact hh) ?_
    refine at_own_shape (h := 101) rfl (fun hsa => ?_)
    refine cd_exit ?_
    refine ax_then_exit ?_
    refine ax_then_exit ?_
    refine ax_block_hit ?_
    refine ax_then ?_
    refine At.regs (L' := [(2, _), (4, _), (5, _)]) (.cons rfl (.cons rfl (.cons rfl (.nil _)))) ?_
    refine cd_seq ?_
    refine cd_seq ?_
    refine cd_region ?_
    refine st (ev_assign rfl) rfl rfl rfl ?_
    refine op_nil ?_
    refine ax_then ?_
    refine At.regs (L' := [(2, _), (4, _), (5, _), (7, _)]) (.cons rfl (.cons rfl (.cons rfl (.cons rfl (.nil _))))) ?_
    refine cd_block ?_
    refine at_own_nil 102 39 32 ?_
    refine at_heq (i := 102) (v' := .own (.slice none 0 0) 39 32 (flat (Ky.hashS r36 0))) rfl rfl ?_
    refine cd_loop (ι := Nat × Value × Value) (fun x => x.1 ≤ 4 ∧ Rr.Und p l x.2.1 (Ky.restS r36 x.1)) (fun x => 4 - x.1)
        (fun x => [(2, .pointer (some ⟨b2, 0, none⟩)), (4, .pointer (some ⟨b10, 0, none⟩)), (5, .pointer (some ⟨b5, 0, none⟩)), (7, .int .i64 (x.1 : Int))])
        (fun x => [(2, .blk (b2) (.cells ([.int .i64 0, .slice none 0 0, .slice none 0 0]).toArray 42)), (5, .blk (b5) (.cells ([.int .i64 (Rr.nVal l), ua, x.2.2]).toArray 42)), (10, .blk (b10) (.cells ([x.2.1, .bool (Ky.badS d36 r36 x.1)]).toArray 102)), (101, .own (ua) 39 32 (flat (Kb.dcs l))), (102, .own (x.2.2) 39 32 (flat (Ky.hashS r36 x.1)))])
        (fun x => [(21, .sl x.2.1 1 (ints .u8 (Ky.restS r36 x.1)))])
        (0, rv, .slice none 0 0) (⟨by omega, hua⟩) (.cons rfl (.cons rfl (.cons rfl (.cons rfl (.nil _))))) (.cons rfl (.cons rfl (.cons rfl (.cons rfl (.cons rfl (.nil _)))))) (.cons rfl (.nil _)) (fun x hi => ?_)
    obtain ⟨i, rv, ub⟩ := x
    dsimp only at hi ⊢
    have hi1 := hi.1
    have hu2 := Ky.hashS_h32 r36 i
    have hn2 := Ky.hashS_len r36 i
    have hhl := Ky.hashOf_len (Ky.restS r36 i)
    refine cd_seq ?_
    refine cd_seq ?_
    refine cd_region ?_
    refine st (ev_move rfl) rfl rfl rfl ?_
    refine st (ev_lss rfl rfl) rfl rfl rfl ?_
    refine op_nil ?_
    refine ax_then ?_
    refine At.regs (L' := [(2, _), (4, _), (5, _), (7, _), (25, _), (26, _)]) (.cons rfl (.cons rfl (.cons rfl (.cons rfl (.cons rfl (.cons rfl (.nil _))))))) ?_
    refine cd_if rfl (fun hc26 => ?_) (fun hc26 => ?_)
    ·
      refine cd_skip ?_
      refine ax_then ?_
      refine At.regs (L' := [(2, _), (4, _), (5, _), (7, _), (25, _), (26, _)]) (.cons rfl (.cons rfl (.cons rfl (.cons rfl (.cons rfl (.cons rfl (.nil _))))))) ?_
      refine cd_seq ?_
      refine cd_block ?_
      refine cd_mix hmix ?_
      refine mx (i := 0) rfl (by decide +kernel) (by decide +kernel) (by decide +kernel) rfl (fun w0 => ev_fieldAddr (b := _) Try.underlying42 (f := _) rfl ty26 (by decide) rfl) rfl rfl (Sub.refl _) ?_
      refine mx (i := 2) rfl (by decide +kernel) (by decide +kernel) (by decide +kernel) rfl (fun w0 => ev_move rfl) rfl rfl (Sub.refl _) ?_
      refine mx_two (i := 1) (j := 3) (by decide +kernel) (Sub.refl _) ?_ ?_
      ·
        refine wo (i := 1) rfl ?_
        refine st (ld_blk1 (h := 5) ty26 rfl rfl rfl rfl) rfl rfl rfl ?_
        refine op_nil ?_
        refine ax_then ?_
        refine mx_one (i := 3) (by decide +kernel) (Sub.refl _) ?_
        refine wo (i := 3) rfl ?_
        refine st_call has71 rfl (fun w1 sw => rn 10 (qhash_any b10 rv (Ky.badS d36 r36 i) (Ky.restS r36 i) w1 (sw.blk_eq (h := 10) rfl) (sw.sl_rd (h := 21) rfl) (sw.off 21 _ 10 _ rfl rfl _ (by simp [Ent.ids])) (by have := Ky.restS_le r36 i; omega) (fun hh => Kb.badS_rest hd0 hh))) (mod_blk rfl) rfl rfl (fun x32 hx32 => ?_)
        refine op_nil ?_
        refine ax_then ?_
        refine mx_one (i := 4) (by decide +kernel) (Sub.refl _) ?_
        refine wo (i := 4) rfl ?_
        refine st_bsh1 (h := 33) Try.underlying26 ty39 rfl (by assumption) rfl rfl (fun b33 hu33 => ?_)
        refine op_nil ?_
        refine ax_then ?_
        refine mx_one (i := 5) (by decide +kernel) (Sub.refl _) ?_
        refine wo (i := 5) rfl ?_
        refine st_appendh (h := 102) Try.underlying26 Try.underlying26 ty39 rfl rfl rfl rfl (fun w1 sw => sw.own_rd (h := 33) rfl) hu2 hu33 (by simp only [List.length_cons, List.length_nil]; omega) (by decide) rfl rfl (fun v34 hu34 => ?_)
        refine at_heq (i := 102) (v' := .own (v34) 39 32 (flat (Ky.hashS r36 (i + 1)))) rfl rfl ?_
        refine at_own_shape (h := 102) rfl (fun hs34 => ?_)
        refine op_nil ?_
        refine ax_then ?_
        refine mx (i := 6) rfl (by decide +kernel) (by decide +kernel) (by decide +kernel) rfl (fun w0 => ev_fieldAddr (b := _) Try.underlying42 (f := _) rfl ty26 (by decide) rfl) rfl rfl (Sub.refl _) ?_
        refine mx_one (i := 7) (by decide +kernel) (Sub.refl _) ?_
        refine wo (i := 7) rfl ?_
        refine st_store1 5 ty26 rfl rfl rfl hs34.2 (show 2 < 3 from by decide) rfl ?_
        refine at_heq (i := 5) (v' := .blk (b5) (.cells ([.int .i64 (Rr.nVal l), ua, v34]).toArray 42)) rfl rfl ?_
        refine op_nil ?_
        refine ax_then ?_
        refine mx_done (by decide +kernel) (Sub.refl _) ?_
        refine ax_block ?_
        refine ax_then ?_
        refine At.regs (L' := [(2, _), (4, _), (5, _), (7, _), (25, _), (26, _), (29, _), (30, _), (31, _), (32, _), (33, _), (34, _), (35, _)]) (.cons rfl (.cons rfl (.cons rfl (.cons rfl (.cons rfl (.cons rfl (.cons rfl (.cons rfl (.cons rfl (.cons rfl (.cons rfl (.cons rfl (.cons rfl (.nil _)))))))))))))) ?_
        refine at_fmap (h := 21) 21 rfl (fun w1 hh => hx32.rd w1 hh) hx32.blk hx32.nil ?_
        refine cd_region ?_
        refine st (ev_move rfl) rfl rfl rfl ?_
        refine st (ev_add64 rfl rfl (by omega) (by omega)) rfl rfl rfl ?_
        refine st (ev_assign rfl) rfl rfl rfl ?_
        refine op_nil ?_
        exact at_again ((i + 1, x32, v34)) (⟨by show i + 1 ≤ 4; omega, hi.2.trans hx32⟩) (by omega) (.cons rfl (.cons rfl (.cons rfl (.cons rfl (.nil _))))) (.cons rfl (.cons rfl (.cons rfl (.cons rfl (.cons rfl (.nil _)))))) (.cons rfl (.nil _))
      ·
        refine wo (i := 3) rfl ?_
        refine st_call has71 rfl (fun w1 sw => rn 10 (qhash_any b10 rv (Ky.badS d36 r36 i) (Ky.restS r36 i) w1 (sw.blk_eq (h := 10) rfl) (sw.sl_rd (h := 21) rfl) (sw.off 21 _ 10 _ rfl rfl _ (by simp [Ent.ids])) (by have := Ky.restS_le r36 i; omega) (fun hh => Kb.badS_rest hd0 hh))) (mod_blk rfl) rfl rfl (fun x32 hx32 => ?_)
        refine op_nil ?_
        refine ax_then ?_
        refine mx_two (i := 1) (j := 4) (by decide +kernel) (Sub.refl _) ?_ ?_
        ·
          refine wo (i := 1) rfl ?_
          refine st (ld_blk1 (h := 5) ty26 rfl rfl rfl rfl) rfl rfl rfl ?_
          refine op_nil ?_
          refine ax_then ?_
          refine mx_one (i := 4) (by decide +kernel) (Sub.refl _) ?_
          refine wo (i := 4) rfl ?_
          refine st_bsh1 (h := 33) Try.underlying26 ty39 rfl (by assumption) rfl rfl (fun b33 hu33 => ?_)
          refine op_nil ?_
          refine ax_then ?_
          refine mx_one (i := 5) (by decide +kernel) (Sub.refl _) ?_
          refine wo (i := 5) rfl ?_
          refine st_appendh (h := 102) Try.underlying26 Try.underlying26 ty39 rfl rfl rfl rfl (fun w1 sw => sw.own_rd (h := 33) rfl) hu2 hu33 (by simp only [List.length_cons, List.length_nil]; omega) (by decide) rfl rfl (fun v34 hu34 => ?_)
          refine at_heq (i := 102) (v' := .own (v34) 39 32 (flat (Ky.hashS r36 (i + 1)))) rfl rfl ?_
          refine at_own_shape (h := 102) rfl (fun hs34 => ?_)
          refine op_nil ?_
          refine ax_then ?_
          refine mx (i := 6) rfl (by decide +kernel) (by decide +kernel) (by decide +kernel) rfl (fun w0 => ev_fieldAddr (b := _) Try.underlying42 (f := _) rfl ty26 (by decide) rfl) rfl rfl (Sub.refl _) ?_
          refine mx_one (i := 7) (by decide +kernel) (Sub.refl _) ?_
          refine wo (i := 7) rfl ?_
          refine st_store1 5 ty26 rfl rfl rfl hs34.2 (show 2 < 3 from by decide) rfl ?_
          refine at_heq (i := 5) (v' := .blk (b5) (.cells ([.int .i64 (Rr.nVal l), ua, v34]).toArray 42)) rfl rfl ?_
          refine op_nil ?_
          refine ax_then ?_
          refine mx_done (by decide +kernel) (Sub.refl _) ?_
          refine ax_block ?_
          refine ax_then ?_
          refine At.regs (L' := [(2, _), (4, _), (5, _), (7, _), (25, _), (26, _), (29, _), (30, _), (31, _), (32, _), (33, _), (34, _), (35, _)]) (.cons rfl (.cons rfl (.cons rfl (.cons rfl (.cons rfl (.cons rfl (.cons rfl (.cons rfl (.cons rfl (.cons rfl (.cons rfl (.cons rfl (.cons rfl (.nil _)))))))))))))) ?_
          refine at_fmap (h := 21) 21 rfl (fun w1 hh => hx32.rd w1 hh) hx32.blk hx32.nil ?_
          refine cd_region ?_
          refine st (ev_move rfl) rfl rfl rfl ?_
          refine st (ev_add64 rfl rfl (by omega) (by omega)) rfl rfl rfl ?_
          refine st (ev_assign rfl) rfl rfl rfl ?_
          refine op_nil ?_
          exact at_again ((i + 1, x32, v34)) (⟨by show i + 1 ≤ 4; omega, hi.2.trans hx32⟩) (by omega) (.cons rfl (.cons rfl (.cons rfl (.cons rfl (.nil _))))) (.cons rfl (.cons rfl (.cons rfl (.cons rfl (.cons rfl (.nil _)))))) (.cons rfl (.nil _))
        ·
          refine wo (i := 4) rfl ?_
          refine st_bsh1 (h := 33) Try.underlying26 ty39 rfl (by assumption) rfl rfl (fun b33 hu33 => ?_)
          refine op_nil ?_
          refine ax_then ?_
          refine mx_one (i := 1) (by decide +kernel) (Sub.refl _) ?_
          refine wo (i := 1) rfl ?_
          refine st (ld_blk1 (h := 5) ty26 rfl rfl rfl rfl) rfl rfl rfl ?_
          refine op_nil ?_
          refine ax_then ?_
          refine mx_one (i := 5) (by decide +kernel) (Sub.refl _) ?_
          refine wo (i := 5) rfl ?_
          refine st_appendh (h := 102) Try.underlying26 Try.underlying26 ty39 rfl rfl rfl rfl (fun w1 sw => sw.own_rd (h := 33) rfl) hu2 hu33 (by simp only [List.length_cons, List.length_nil]; omega) (by decide) rfl rfl (fun v34 hu34 => ?_)
          refine at_heq (i := 102) (v' := .own (v34) 39 32 (flat (Ky.hashS r36 (i + 1)))) rfl rfl ?_
          refine at_own_shape (h := 102) rfl (fun hs34 => ?_)
          refine op_nil ?_
          refine ax_then ?_
          refine mx (i := 6) rfl (by decide +kernel) (by decide +kernel) (by decide +kernel) rfl (fun w0 => ev_fieldAddr (b := _) Try.underlying42 (f := _) rfl ty26 (by decide) rfl) rfl rfl (Sub.refl _) ?_
          refine mx_one (i := 7) (by decide +kernel) (Sub.refl _) ?_
          refine wo (i := 7) rfl ?_
          refine st_store1 5 ty26 rfl rfl rfl hs34.2 (show 2 < 3 from by decide) rfl ?_
          refine at_heq (i := 5) (v' := .blk (b5) (.cells ([.int .i64 (Rr.nVal l), ua, v34]).toArray 42)) rfl rfl ?_
          refine op_nil ?_
          refine ax_then ?_
          refine mx_done (by decide +kernel) (Sub.refl _) ?_
          refine ax_block ?_
          refine ax_then ?_
          refine At.regs (L' := [(2, _), (4, _), (5, _), (7, _), (25, _), (26, _), (29, _), (30, _), (31, _), (32, _), (33, _), (34, _), (35, _)]) (.cons rfl (.cons rfl (.cons rfl (.cons rfl (.cons rfl (.cons rfl (.cons rfl (.cons rfl (.cons rfl (.cons rfl (.cons rfl (.cons rfl (.cons rfl (.nil _)))))))))))))) ?_
          refine at_fmap (h := 21) 21 rfl (fun w1 hh => hx32.rd w1 hh) hx32.blk hx32.nil ?_
          refine cd_region ?_
          refine st (ev_move rfl) rfl rfl rfl ?_
          refine st (ev_add64 rfl rfl (by omega) (by omega)) rfl rfl rfl ?_
          refine st (ev_assign rfl) rfl rfl rfl ?_
          refine op_nil ?_
          exact at_again ((i + 1, x32, v34)) (⟨by show i + 1 ≤ 4; omega, hi.2.trans hx32⟩) (by omega) (.cons rfl (.cons rfl (.cons rfl (.cons rfl (.nil _))))) (.cons rfl (.cons rfl (.cons rfl (.cons rfl (.cons rfl (.nil _)))))) (.cons rfl (.nil _))
    ·
      obtain rfl : i = 4 := by omega
      have hu4 := Kb.dps_h32 l
      refine at_heq (i := 102) (v' := .own (ub) 39 32 (flat (Kb.dps l))) rfl (by rw [Kb.dps, hr36]) ?_
      refine at_own_shape (h := 102) rfl (fun hsb => ?_)
      refine cd_exit ?_
      refine ax_then_exit ?_
      refine ax_then_exit ?_
      refine ax_block_hit ?_
      refine ax_then ?_
      refine At.regs (L' := [(2, _), (4, _), (5, _)]) (.cons rfl (.cons rfl (.cons rfl (.nil _)))) ?_
      refine cd_seq ?_
      refine cd_seq ?_
      refine cd_region ?_
      refine st (ev_move rfl) rfl rfl rfl ?_
      refine st_callv has72 rfl (fun w1 sw => qwhole_any b10 rv (Ky.badS d36 r36 4) (Ky.restS r36 4) w1 (lies_blk (sw.blk_eq (h := 10) rfl)) (sw.sl_rd (h := 21) rfl)) rfl rfl ?_
      refine at_eq (i := 37) (v' := .bool (decide (Kb.whole l))) rfl (by rw [hd36, hr36, Kb.whole_eq]) ?_
      refine st (ev_not_if rfl) rfl rfl rfl ?_
      refine st (ev_move rfl) rfl rfl rfl ?_
      refine at_split_if (i := 39) rfl (fun hg39 => ?_) (fun hg39 => ?_)
      ·
        refine st_skip rfl rfl rfl ?_
        refine st_skip rfl rfl rfl ?_
        refine st_skip rfl rfl rfl ?_
        refine st (ev_pick_t rfl rfl) rfl rfl rfl ?_
        refine op_nil ?_
        refine ax_then ?_
        refine At.regs (L' := [(2, _), (5, _), (43, _)]) (.cons rfl (.cons rfl (.cons rfl (.nil _)))) ?_
        refine cd_true rfl ?_
        refine cd_seq ?_
        refine cd_region ?_
        refine st (ev_build_struct ty42 rfl pl42 rfl rfl) rfl rfl rfl ?_
        refine st_store_all 2 ty42 rfl rfl rfl rfl (by first | omega | (simp only [List.length_append, List.length_cons, List.length_nil, List.length_set, List.length_replicate, List.length_take, List.length_drop, ints_length, wr_length, sha_len, node_len, recov_len, Ky.named_len, Ky.keyPub_len, Ky.hashOf_len] <;> omega) | rfl) (by first | (intro u hu; simp at hu; rcases hu with rfl | rfl <;> rfl) | (simp [Value.oneCell'])) (by first | omega | (simp only [List.length_append, List.length_cons, List.length_nil, List.length_set, List.length_replicate, List.length_take, List.length_drop, ints_length, wr_length, sha_len, node_len, recov_len, Ky.named_len, Ky.keyPub_len, Ky.hashOf_len] <;> omega) | rfl) rfl ?_
        refine st (ev_assign rfl) rfl rfl rfl ?_
        refine op_nil ?_
        refine ax_then ?_
        refine At.regs (L' := [(2, _), (3, _), (5, _)]) (.cons rfl (.cons rfl (.cons rfl (.nil _)))) ?_
        refine cd_ret ?_
        refine ax_then_ret ?_
        refine rt_cell_tmp (h0 := 2) (.inl rfl) Try.results42 ty42 rfl rfl rfl (by first | omega | (simp only [List.length_append, List.length_cons, List.length_nil, List.length_set, List.length_replicate, List.length_take, List.length_drop, ints_length, wr_length, sha_len, node_len, recov_len, Ky.named_len, Ky.keyPub_len, Ky.hashOf_len] <;> omega) | rfl) rfl ?_
        exact fun w1 sw => ⟨rfl, sw.gives (.nil _)⟩
      ·
        refine st (ld_blk_all (h := 5) ty42 rfl rfl rfl rfl) rfl rfl rfl ?_
        refine st_callv has34 rfl (fun w1 sw => risSig_any (Rr.nVal l) ua ub (Kb.dcs l) (Kb.dps l) w1 hu36 hu4 (sw.own_rd (h := 101) rfl) (sw.own_rd (h := 102) rfl)) rfl rfl ?_
        refine st (ev_not_if rfl) rfl rfl rfl ?_
        refine st (ev_pick_f rfl rfl) rfl rfl rfl ?_
        refine op_nil ?_
        refine ax_then ?_
        refine At.regs (L' := [(2, _), (5, _), (43, _)]) (.cons rfl (.cons rfl (.cons rfl (.nil _)))) ?_
        refine cd_if_t rfl (by exact fun h => hk ⟨Classical.not_not.1 hg39, h⟩) ?_
        refine cd_seq ?_
        refine cd_region ?_
        refine st (ev_build_struct ty42 rfl pl42 rfl rfl) rfl rfl rfl ?_
        refine st_store_all 2 ty42 rfl rfl rfl rfl (by first | omega | (simp only [List.length_append, List.length_cons, List.length_nil, List.length_set, List.length_replicate, List.length_take, List.length_drop, ints_length, wr_length, sha_len, node_len, recov_len, Ky.named_len, Ky.keyPub_len, Ky.hashOf_len] <;> omega) | rfl) (by first | (intro u hu; simp at hu; rcases hu with rfl | rfl <;> rfl) | (simp [Value.oneCell'])) (by first | omega | (simp only [List.length_append, List.length_cons, List.length_nil, List.length_set, List.length_replicate, List.length_take, List.length_drop, ints_length, wr_length, sha_len, node_len, recov_len, Ky.named_len, Ky.keyPub_len, Ky.hashOf_len] <;> omega) | rfl) rfl ?_
        refine st (ev_assign rfl) rfl rfl rfl ?_
        refine op_nil ?_
        refine ax_then ?_
        refine At.regs (L' := [(2, _), (3, _), (5, _)]) (.cons rfl (.cons rfl (.cons rfl (.nil _)))) ?_
        refine cd_ret ?_
        refine ax_then_ret ?_
        refine rt_cell_tmp (h0 := 2) (.inl rfl) Try.results42 ty42 rfl rfl rfl (by first | omega | (simp only [List.length_append, List.length_cons, List.length_nil, List.length_set, List.length_replicate, List.length_take, List.length_drop, ints_length, wr_length, sha_len, node_len, recov_len, Ky.named_len, Ky.keyPub_len, Ky.hashOf_len] <;> omega) | rfl) rfl ?_
        exact fun w1 sw => ⟨rfl, sw.gives (.nil _)⟩
theorem qdecodeG_any (p : Value) (l : List Int) (w : World) (hl : l.length ≤ 140737488352000) (hb : Byt l) (h : Rd w p 1 (ints .u8 l)) : Calls Try.prog 42 #[p] w (Post (ι := Value × Value) w [] (fun _ => True) (fun x => .tuple #[.agg (List.toArray [.int .i64 (Kb.sLeaf l), x.1, x.2]), .int .i64 (Kb.sErr l)]) (fun x => [(0, .own (x.1) 39 32 (flat (Kb.sCs l))), (1, .own (x.2) 39 32 (flat (Kb.sPs l)))])) := by
  by_cases hk : Kb.ok l
  · refine (qdecode_ok p l w hl hb h hk).mono ?_
    rintro e w' ⟨x, _, rfl, g⟩
    refine ⟨x, trivial, ?_, ?_⟩
    · simp only [Kb.sLeaf, Kb.sErr, if_pos hk]
    · simp only [Kb.sCs, Kb.sPs, if_pos hk]
      exact g
  · refine (qdecode_no p l w hl hb h hk).mono ?_
    rintro e w' ⟨rfl, g⟩
    refine ⟨(.slice none 0 0, .slice none 0 0), trivial, ?_, ?_⟩
    · simp only [Kb.sLeaf, Kb.sErr, if_neg hk]
    · simp only [Kb.sCs, Kb.sPs, if_neg hk]
      exact g.nil2
end Go.Proofs.Yteedclmcgifmpaa

namespace Go.Proofs.Yteedclmcgifmpaa
open Go Go.RowKit Fw
open Sha
open Ots
open Mk
set_option linter.unusedVariables false
set_option linter.unusedSimpArgs false
set_option maxRecDepth 20000 in
set_option maxHeartbeats 4000000 in
theorem keyBytes_any (l : Int) (vc vp pb : Value) (cs ps : List (List Int)) (bs : List Int) (w : World) (hu : H32 cs) (hu' : H32 ps) (n1 : cs.length ≤ 4398046511104) (n2 : ps.length ≤ 4398046511104) (hbl : bs.length ≤ 140737488351232) (hB : Byt bs) (h : Rd w vc 32 (flat cs)) (h' : Rd w vp 32 (flat ps)) (hb : Rd w pb 1 (ints .u8 bs)) : Calls Try.prog 12 #[.agg (List.toArray [.int .i64 l, vc, vp]), pb] w (PostV w (.bool true)) := by
  refine calls_at (vs := [.agg (List.toArray [.int .i64 l, vc, vp]), pb]) (X := []) (H := []) (F := [(22, .sl (pb) 1 (ints .u8 (bs))), (21, .sl (vp) 32 (flat (ps))), (20, .sl (vc) 32 (flat (cs)))]) 71 Try.func12 rfl rfl rfl (((Sat.rd0 20 h).more 21 h').more 22 hb) ?_
  refine cd_seq ?_
  refine cd_region ?_
  refine st_box (h := 2) rfl rfl rfl rfl (fun b2 => ?_)
  refine st (ev_assign rfl) rfl rfl rfl ?_
  refine op_nil ?_
  refine ax_then ?_
  refine At.regs (L' := [(1, _), (2, _), (4, _)]) (.cons rfl (.cons rfl (.cons rfl (.nil _)))) ?_
  refine cd_seq ?_
  refine cd_seq ?_
  refine cd_region ?_
  refine st (ev_fieldAddr (b := _) Try.underlying42 (f := _) rfl ty26 (by decide) rfl) rfl rfl rfl ?_
  refine st (ld_blk1 (h := 2) ty26 rfl rfl rfl rfl) rfl rfl rfl ?_
  refine st (ev_len_rdh (h := 20) Try.underlying26 rfl rfl (by assumption)) rfl rfl rfl ?_
  refine st (ev_fieldAddr (b := _) Try.underlying42 (f := _) rfl ty26 (by decide) rfl) rfl rfl rfl ?_
  refine st (ld_blk1 (h := 2) ty26 rfl rfl rfl rfl) rfl rfl rfl ?_
  refine st (ev_len_rdh (h := 21) Try.underlying26 rfl rfl (by assumption)) rfl rfl rfl ?_
  refine st (ev_add64 rfl rfl (by omega) (by omega)) rfl rfl rfl ?_
  refine st (ev_gtr rfl rfl) rfl rfl rfl ?_
  refine st (ev_move rfl) rfl rfl rfl ?_
  refine at_split_if (i := 21) rfl (fun hg21 => ?_) (fun hg21 => ?_)
  ·
    refine st_skip rfl rfl rfl ?_
    refine st_skip rfl rfl rfl ?_
    refine st_skip rfl rfl rfl ?_
    refine st (ev_pick_t rfl rfl) rfl rfl rfl ?_
    refine op_nil ?_
    refine ax_then ?_
    refine At.regs (L' := [(1, _), (2, _), (4, _), (25, _)]) (.cons rfl (.cons rfl (.cons rfl (.cons rfl (.nil _))))) ?_
    refine cd_true rfl ?_
    refine cd_seq ?_
    refine cd_region ?_
    refine st (ev_assign rfl) rfl rfl rfl ?_
    refine op_nil ?_
    refine ax_then ?_
    refine At.regs (L' := [(1, _), (2, _), (4, _)]) (.cons rfl (.cons rfl (.cons rfl (.nil _)))) ?_
    refine cd_ret ?_
    refine ax_then_ret ?_
    refine rt_tmp (.inl rfl) Try.results12 rfl ?_
    exact fun w1 sw => ⟨rfl, sw.gives (.nil _)⟩
  ·
    refine st (ev_move rfl) rfl rfl rfl ?_
    refine st (ev_len_rdi (h := 22) Try.underlying22 rfl rfl) rfl rfl rfl ?_
    refine st (ev_gtr rfl rfl) rfl rfl rfl ?_
    refine st (ev_pick_f rfl rfl) rfl rfl rfl ?_
    refine op_nil ?_
    refine ax_then ?_
    refine At.regs (L' := [(1, _), (2, _), (4, _), (25, _)]) (.cons rfl (.cons rfl (.cons rfl (.cons rfl (.nil _))))) ?_
    refine cd_if rfl (fun hc25 => ?_) (fun hc25 => ?_)
    ·
      refine cd_seq ?_
      refine cd_region ?_
      refine st (ev_assign rfl) rfl rfl rfl ?_
      refine op_nil ?_
      refine ax_then ?_
      refine At.regs (L' := [(1, _), (2, _), (4, _)]) (.cons rfl (.cons rfl (.cons rfl (.nil _)))) ?_
      refine cd_ret ?_
      refine ax_then_ret ?_
      refine rt_tmp (.inl rfl) Try.results12 rfl ?_
      exact fun w1 sw => ⟨rfl, sw.gives (.nil _)⟩
    ·
      refine cd_skip ?_
      refine ax_then ?_
      refine At.regs (L' := [(1, _), (2, _), (4, _)]) (.cons rfl (.cons rfl (.cons rfl (.nil _)))) ?_
      refine cd_seq ?_
      refine cd_region ?_
      refine st (ld_blk_all (h := 2) ty42 rfl rfl rfl (by first | omega | (simp only [List.length_append, List.length_cons, List.length_nil, List.length_set, List.length_replicate, List.length_take, List.length_drop, ints_length, wr_length, sha_len, node_len, recov_len, Ky.named_len, Ky.keyPub_len, Ky.hashOf_len] <;> omega) | rfl)) rfl rfl rfl ?_
      refine st_call has39 rfl (fun w1 sw => rn 28 (encodeG_any l vc vp cs ps w1 hu hu' (sw.sl_rd (h := 20) rfl) (sw.sl_rd (h := 21) rfl))) nil_all rfl rfl (fun v28 _ => ?_)
      refine st (ev_move rfl) rfl rfl rfl ?_
      refine st (ev_extract rfl rfl) rfl rfl rfl ?_
      refine st (ev_extract rfl rfl) rfl rfl rfl ?_
      refine st (ev_assign rfl) rfl rfl rfl ?_
      refine st (ev_assign rfl) rfl rfl rfl ?_
      refine op_nil ?_
      refine ax_then ?_
      refine At.regs (L' := [(1, _), (2, _), (4, _), (5, _), (6, _)]) (.cons rfl (.cons rfl (.cons rfl (.cons rfl (.cons rfl (.nil _)))))) ?_
      refine cd_seq ?_
      refine cd_region ?_
      refine st (ld_blk_all (h := 2) ty42 rfl rfl rfl (by first | omega | (simp only [List.length_append, List.length_cons, List.length_nil, List.length_set, List.length_replicate, List.length_take, List.length_drop, ints_length, wr_length, sha_len, node_len, recov_len, Ky.named_len, Ky.keyPub_len, Ky.hashOf_len] <;> omega) | rfl)) rfl rfl rfl ?_
      refine st_call has40 rfl (fun w1 sw => rn 33 (qencodeG_any l vc vp cs ps w1 hu hu' (sw.sl_rd (h := 20) rfl) (sw.sl_rd (h := 21) rfl))) nil_all rfl rfl (fun v33 _ => ?_)
      refine st (ev_move rfl) rfl rfl rfl ?_
      refine st (ev_extract rfl rfl) rfl rfl rfl ?_
      refine st (ev_extract rfl rfl) rfl rfl rfl ?_
      refine st (ev_assign rfl) rfl rfl rfl ?_
      refine st (ev_assign rfl) rfl rfl rfl ?_
      refine op_nil ?_
      refine ax_then ?_
      refine At.regs (L' := [(1, _), (4, _), (5, _), (6, _), (7, _), (8, _)]) (.cons rfl (.cons rfl (.cons rfl (.cons rfl (.cons rfl (.cons rfl (.nil _))))))) ?_
      refine cd_seq ?_
      refine cd_region ?_
      refine st_bsi (h := 37) (xs := []) Try.underlying22 ty5 (by decide) rfl rfl (by decide) rfl rfl (fun b37 => ?_)
      refine st (ev_move rfl) rfl rfl rfl ?_
      refine st_appendi (h := 37) Try.underlying22 Try.underlying22 ty5 rfl rfl rfl rfl (fun w1 sw => sw.sl_rd (h := 22) rfl) (by first | omega | (simp only [List.length_append, List.length_cons, List.length_nil, List.length_set, List.length_replicate, List.length_take, List.length_drop, ints_length, wr_length, sha_len, node_len, recov_len, Ky.named_len, Ky.keyPub_len, Ky.hashOf_len] <;> omega)) (by decide) rfl rfl (fun v39 => ?_)
      refine at_heq (i := 37) (v' := .own (v39) 5 1 (ints .u8 (bs))) rfl (by rw [List.nil_append]) ?_
      refine st_call has41 rfl (fun w1 sw => rn2 140 141 (decodeG_any v39 bs w1 (by omega) hB (sw.own_rd (h := 37) rfl))) nil_all rfl rfl (fun x40 _ => ?_)
      obtain ⟨va40, vb40⟩ := x40
      dsimp only
      refine at_own_shape (h := 140) rfl (fun hsa40 => ?_)
      refine at_own_shape (h := 141) rfl (fun hsb40 => ?_)
      refine st (ev_move rfl) rfl rfl rfl ?_
      refine st (ev_extract rfl rfl) rfl rfl rfl ?_
      refine st (ev_extract rfl rfl) rfl rfl rfl ?_
      refine st_alloc (h := 9) ty42 rfl rfl rfl (fun b9 => ?_)
      refine st_store_all 9 ty42 rfl rfl rfl rfl rfl (by intro u hu; simp at hu; rcases hu with rfl | rfl | rfl; rfl; exact hsa40.2; exact hsb40.2) rfl rfl ?_
      refine st (ev_assign rfl) rfl rfl rfl ?_
      refine op_nil ?_
      refine ax_then ?_
      refine At.regs (L' := [(1, _), (4, _), (5, _), (6, _), (7, _), (8, _), (9, _), (10, _)]) (.cons rfl (.cons rfl (.cons rfl (.cons rfl (.cons rfl (.cons rfl (.cons rfl (.cons rfl (.nil _))))))))) ?_
      refine cd_seq ?_
      refine cd_region ?_
      refine st (ev_move rfl) rfl rfl rfl ?_
      refine st_call has42 rfl (fun w1 sw => rn2 145 146 (qdecodeG_any pb bs w1 (by omega) hB (sw.sl_rd (h := 22) rfl))) nil_all rfl rfl (fun x45 _ => ?_)
      obtain ⟨va45, vb45⟩ := x45
      dsimp only
      refine at_own_shape (h := 145) rfl (fun hsa45 => ?_)
      refine at_own_shape (h := 146) rfl (fun hsb45 => ?_)
      refine st (ev_move rfl) rfl rfl rfl ?_
      refine st (ev_extract rfl rfl) rfl rfl rfl ?_
      refine st (ev_extract rfl rfl) rfl rfl rfl ?_
      refine st_alloc (h := 11) ty42 rfl rfl rfl (fun b11 => ?_)
      refine st_store_all 11 ty42 rfl rfl rfl rfl rfl (by intro u hu; simp at hu; rcases hu with rfl | rfl | rfl; rfl; exact hsa45.2; exact hsb45.2) rfl rfl ?_
      refine st (ev_assign rfl) rfl rfl rfl ?_
      refine op_nil ?_
      refine ax_then ?_
      refine At.regs (L' := [(4, _), (5, _), (6, _), (7, _), (8, _), (9, _), (10, _), (11, _), (12, _)]) (.cons rfl (.cons rfl (.cons rfl (.cons rfl (.cons rfl (.cons rfl (.cons rfl (.cons rfl (.cons rfl (.nil _)))))))))) ?_
      refine cd_seq ?_
      have hsc := Kb.sCs_len bs
      have hsp := Kb.sPs_len bs
      refine cd_region ?_
      refine st (ev_move rfl) rfl rfl rfl ?_
      refine st (ev_string Try.underlying22 Try.underlying5 Try.underlying9 rfl (fun w1 sw => sw.own_rd (h := 28) rfl)) rfl rfl rfl ?_
      refine st (ev_move rfl) rfl rfl rfl ?_
      refine st (ev_string Try.underlying22 Try.underlying5 Try.underlying9 rfl (fun w1 sw => sw.own_rd (h := 33) rfl)) rfl rfl rfl ?_
      refine st (ev_eql_str rfl rfl) rfl rfl rfl ?_
      refine at_eq (i := 52) (v' := .bool true) rfl (by simp) ?_
      refine st (ev_move rfl) rfl rfl rfl ?_
      refine st (ev_move rfl) rfl rfl rfl ?_
      refine st (ev_move rfl) rfl rfl rfl ?_
      refine st (ev_eql rfl rfl) rfl rfl rfl ?_
      refine st (ev_pick_t rfl rfl) rfl rfl rfl ?_
      refine st (ev_move rfl) rfl rfl rfl ?_
      refine at_eq (i := 58) (v' := .bool true) rfl (by simp) ?_
      refine st (ld_blk_all (h := 9) ty42 rfl rfl rfl (by first | omega | (simp only [List.length_append, List.length_cons, List.length_nil, List.length_set, List.length_replicate, List.length_take, List.length_drop, ints_length, wr_length, sha_len, node_len, recov_len, Ky.named_len, Ky.keyPub_len, Ky.hashOf_len] <;> omega) | rfl)) rfl rfl rfl ?_
      refine st (ld_blk_all (h := 11) ty42 rfl rfl rfl (by first | omega | (simp only [List.length_append, List.length_cons, List.length_nil, List.length_set, List.length_replicate, List.length_take, List.length_drop, ints_length, wr_length, sha_len, node_len, recov_len, Ky.named_len, Ky.keyPub_len, Ky.hashOf_len] <;> omega) | rfl)) rfl rfl rfl ?_
      refine st_callv has31 rfl (fun w1 sw => rsame5_any (Kb.sLeaf bs) (Kb.sLeaf bs) va40 vb40 va45 vb45 (Kb.sCs bs) (Kb.sPs bs) (Kb.sCs bs) (Kb.sPs bs) w1 (Kb.sCs_h32 _) (Kb.sPs_h32 _) (Kb.sCs_h32 _) (Kb.sPs_h32 _) (by omega) (by omega) (by omega) (by omega) (sw.own_rd (h := 140) rfl) (sw.own_rd (h := 141) rfl) (sw.own_rd (h := 145) rfl) (sw.own_rd (h := 146) rfl)) rfl rfl ?_
      refine st (ev_pick_t rfl rfl) rfl rfl rfl ?_
      refine st (ev_move rfl) rfl rfl rfl ?_
      refine at_eq (i := 63) (v' := .bool true) rfl (by simp) ?_
      refine st (ev_move rfl) rfl rfl rfl ?_
      refine st (ev_move rfl) rfl rfl rfl ?_
      refine st (ev_eql rfl rfl) rfl rfl rfl ?_
      refine st (ev_pick_t rfl rfl) rfl rfl rfl ?_
      refine st (ev_move rfl) rfl rfl rfl ?_
      refine at_eq (i := 68) (v' := .bool true) rfl (by simp) ?_
      refine st_callv has33 rfl (fun w1 sw => known5_any w1) rfl rfl ?_
      refine st (ev_pick_t rfl rfl) rfl rfl rfl ?_
      refine st (ev_assign rfl) rfl rfl rfl ?_
      refine op_nil ?_
      refine ax_then ?_
      refine At.regs (L' := [(4, _)]) (.cons rfl (.nil _)) ?_
      refine cd_ret ?_
      refine rt_tmp (.inl rfl) Try.results12 rfl ?_
      exact fun w1 sw => ⟨rfl, sw.gives (.nil _)⟩
end Go.Proofs.Yteedclmcgifmpaa

namespace Go.Proofs.Yteedclmcgifmpaa
open Go Go.ChangeShapes Go.WideShapes Go.ChangeAt Go.RowKit Fw
set_option linter.unusedVariables false
theorem laid : laidOutB Try.prog = true := by kernel_rfl
namespace keyBytes
theorem own : ownKnob Try.prog.godebug = none := by kernel_rfl
set_option maxRecDepth 100000 in
theorem lifted (os : Os) (started : os.Started) (H : Type) (enc : TypeId × Value → H) :
    ReturnsInHanded {} Try.checked os 12 .any (Rows.keyBytesSpec.pre6 enc Try.prog Try.f12 Rows.keyBytesRow.domain false) (Rows.keyBytesSpec.post enc Try.prog Try.f12 false true false false) := by
  refine returnsInHanded_of_change_sized (C := Try.checked) own started (by kernel_rfl) Try.func12
    (ChangeSpec.witness6 (enc := enc) (C := Try.checked) false ⟨#[], #[.agg #[.int .i64 0, .slice none 0 0, .slice none 0 0], .slice none 0 0], []⟩ 8 (by kernel_rfl) (by kernel_rfl) (by kernel_rfl) (by kernel_rfl)) ?_
  intro W base args ds gs before hval0 hW hcnd hsz _
  have hval : ∀ (j : Nat) t v, Try.f12.params[j]? = some t → args[j]? = some v → Value.okWide Try.prog W .any base t v := hval0
  have hW' := hW
  obtain ⟨p, q, hA0, hV, rfl, hfz, hnd⟩ := hW
  have hA : DataW.TrodAll enc Try.prog W 0 (fun _ => true) true Try.f12.params.toList args.toList ds p := hA0
  have hk := hA
  have hlt : ∀ x ∈ p, x.block < W.heap.size := fun x hx => hW'.lt x (List.mem_append.2 (.inl hx))
  rw [Try.params12] at hA hval hk
  obtain ⟨v0, vs0, d0, ds0, p0, q0, hargs, rfl, rfl, h0, r0⟩ := trodAll_cons hA
  obtain ⟨v1, vs1, d1, ds1, p1, q1, rfl, rfl, rfl, h1, r1⟩ := trodAll_cons r0
  obtain ⟨rfl, rfl, rfl⟩ := trodAll_nil r1
  obtain rfl : args = #[v0, v1] := by cases args; simp_all
  obtain ⟨rfl, rfl⟩ := trodVars_none hV
  obtain ⟨cs0, rfl, hl0, ho0, hf0⟩ := open_struct Try.underlying42 (hval 0 42 v0 rfl rfl) h0 (light_of (j := 0) hsz rfl rfl)
  obtain ⟨c00, c01, c02, rfl⟩ := three (hl0.trans (by kernel_rfl))
  have t00 : Tr enc Try.prog W 3 (([c00, c01, c02].drop 0).take (Try.prog.cellsOf 3)) := hf0 0 _ rfl
  have t01 : Tr enc Try.prog W 26 (([c00, c01, c02].drop 1).take (Try.prog.cellsOf 26)) := hf0 1 _ rfl
  have t02 : Tr enc Try.prog W 26 (([c00, c01, c02].drop 2).take (Try.prog.cellsOf 26)) := hf0 2 _ rfl
  rw [show Try.prog.cellsOf 3 = 1 from by kernel_rfl] at t00
  rw [show Try.prog.cellsOf 26 = 1 from by kernel_rfl] at t01 t02
  obtain ⟨n0, hn0, wn0⟩ := tr_int Try.underlying3 t00
  obtain rfl : c00 = .int .i64 n0 := (List.cons.inj hn0).1
  obtain ⟨hs0a, rd0a, hu0a, m0a, b0a⟩ := rd_hashes Try.underlying26 Try.underlying39 Try.underlying5 (by kernel_rfl) (by kernel_rfl) (ok_field (ts := [3, 26, 26]) (i := 1) ho0 (by kernel_rfl) rfl rfl Try.underlying26) t01
  have len0a : hs0a.length ≤ 4398046511104 := by
    have h := m0a
    rw [show Try.prog.bytesOf 39 = 32 from by kernel_rfl] at h
    have hr : reachBytes = 140737488351232 := rfl
    omega
  obtain ⟨hs0b, rd0b, hu0b, m0b, b0b⟩ := rd_hashes Try.underlying26 Try.underlying39 Try.underlying5 (by kernel_rfl) (by kernel_rfl) (ok_field (ts := [3, 26, 26]) (i := 2) ho0 (by kernel_rfl) rfl rfl Try.underlying26) t02
  have len0b : hs0b.length ≤ 4398046511104 := by
    have h := m0b
    rw [show Try.prog.bytesOf 39 = 32 from by kernel_rfl] at h
    have hr : reachBytes = 140737488351232 := rfl
    omega
  obtain ⟨l1, rd1, m1, b1⟩ := rd_ints Try.underlying22 Try.underlying5 (by kernel_rfl) (hval 1 22 v1 rfl rfl) h1 (light_of (j := 1) hsz rfl rfl)
  have len1 : l1.length ≤ 140737488351232 := by
    have h := m1
    rw [show Try.prog.bytesOf 5 = 1 from by kernel_rfl] at h
    have hr : reachBytes = 140737488351232 := rfl
    omega
  refine (keyBytes_any n0 c01 c02 v1 hs0a hs0b l1 W hu0a hu0b len0a len0b len1 (wf_byt b1) rd0a rd0b rd1).mono fun e W' ⟨he, g⟩ => ?_
  subst he
  have bel := g.below
  exact ⟨_, rfl, _, _, _, [], _, [], hW', trodAll_mk1 (shut_bool Try.underlying4 _), all_below laid bel _ _ _ _ (all_rows (by kernel_rfl)) hk hlt (fun x hx => by simpa using hlt x hx), rfl, bel.frame _, fun h => by cases h⟩
theorem over : Rows.keyBytesRow.holds Try.pinned (OpenSpec.ofChange Rows.keyBytesSpec) :=
  OpenClaim.holds_of_wide 12 Try.f12 rfl rfl rfl rfl rfl rfl rfl ⟨rfl, rfl, rfl, rfl, rfl⟩ rfl rfl rfl rfl rfl (by kernel_rfl) Try.func12 (by kernel_rfl)
    (of_decide_eq_true (by kernel_rfl)) (by unfold Func.isWrapper; first | (rw [if_pos (by decide +kernel)]; kernel_rfl) | (rw [if_neg (by decide +kernel)]; exact ⟨rfl, rfl⟩))
    (fun os started H enc _ => lifted os started H enc)
/-- The statement. -/
theorem proved : Rows.KeyBytesSaid := over
end keyBytes
end Go.Proofs.Yteedclmcgifmpaa
