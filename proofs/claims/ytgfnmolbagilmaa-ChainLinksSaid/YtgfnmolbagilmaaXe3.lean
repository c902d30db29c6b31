/- The statement's proof, part 3: what its walks and its plain laws need. -/
import Derived.Test.YtgfnmolbagilmaaRows
import Derived.Tactics
import Derived.Deep.Quiet
import Derived.StillTail
import Derived.Laws.World
import Derived.Laws.Sem
import Derived.Laws.Entries
import Derived.Below
import Derived.Deep.LoopGhost
import Derived.Laws.BytesString
import Derived.Laws.IdiomStrings
import Derived.KernelRfl
import Derived.Carry
import Derived.OpenShut
import Derived.ProofKit
import Derived.ChangeSame
import Derived.HandedShaped
import Derived.SizedLaws
import Derived.Test.YtgfnmolbagilmaaProg
import Derived.Laws.Strings
import Derived.Test.YtgfnmolbagilmaaXe2
namespace Go.Proofs.Ytgfnmolbagilmaa
open Go Go.RowKit Fw
open Sha
set_option linter.unusedVariables false
set_option linter.unusedSimpArgs false
set_option maxRecDepth 20000 in
set_option maxHeartbeats 1000000 in
theorem rk_any (w : World) : Calls Try.prog 123 #[] w (PostV w (.agg (ints .u32 K).toArray)) := by
  refine calls_at (vs := []) (X := []) (H := []) (F := []) 2 Try.func123 rfl rfl rfl (Sat.start0 w) ?_
  refine cd_seq ?_
  refine cd_region ?_
  refine st_alloc (h := 0) ty169 rfl rfl rfl (fun b0 => ?_)
  refine op_nil ?_
  refine ax_then ?_
  refine At.regs (L' := [(0, _)]) (.cons rfl (.nil _)) ?_
  refine cd_seq ?_
  refine cd_region ?_
  refine st (ev_build_ints (xs := [_, _, _, _, _, _, _, _, _, _, _, _, _, _, _, _, _, _, _, _, _, _, _, _, _, _, _, _, _, _, _, _, _, _, _, _, _, _, _, _, _, _, _, _, _, _, _, _, _, _, _, _, _, _, _, _, _, _, _, _, _, _, _, _]) (zs := List.replicate 64 0) ty169 rfl ty167 rfl rfl rfl rfl rfl) rfl rfl rfl ?_
  refine st_store_all 0 ty169 rfl rfl rfl rfl (by first | omega | (simp only [List.length_append, List.length_cons, List.length_nil, List.length_set, List.length_replicate, List.length_take, List.length_drop, ints_length, wr_length, comp_len, absorb_len, S0_len] <;> omega) | rfl) (ints_one _ _) (by first | omega | (simp only [List.length_append, List.length_cons, List.length_nil, List.length_set, List.length_replicate, List.length_take, List.length_drop, ints_length, wr_length, comp_len, absorb_len, S0_len] <;> omega) | rfl) rfl ?_
  refine op_nil ?_
  refine ax_then ?_
  refine At.regs (L' := [(0, _)]) (.cons rfl (.nil _)) ?_
  refine cd_ret ?_
  refine rt_cell (h0 := 0) (.inl rfl) Try.results123 ty169 rfl rfl rfl (by first | omega | (simp only [List.length_append, List.length_cons, List.length_nil, List.length_set, List.length_replicate, List.length_take, List.length_drop, ints_length, wr_length, comp_len, absorb_len, S0_len] <;> omega) | rfl) ?_
  exact fun w1 sw => ⟨rfl, by have g := sw.gives (.nil _); exact g⟩
set_option maxRecDepth 20000 in
set_option maxHeartbeats 4000000 in
theorem block_any (bk : Nat) (p : Value) (s b k : List Int) (w : World) (hs : s.length = 8) (hk : k.length = 64) (hb : 64 ≤ b.length) (h2 : Rd w p 1 (ints .u8 b)) (h3 : Lies w bk 0 (ints .u32 k)) : Calls Try.prog 124 #[.agg (ints .u32 s).toArray, p, .pointer (some ⟨bk, 0, none⟩)] w (PostV w (.agg (ints .u32 (comp k s b)).toArray)) := by
  refine calls_at (vs := [.agg (ints .u32 s).toArray, p, .pointer (some ⟨bk, 0, none⟩)]) (X := []) (H := []) (F := [(1, .sl p 1 (ints .u8 b)), (2, .mem bk 0 (ints .u32 k))]) 196 Try.func124 rfl rfl rfl (((Sat.start0 w).read 2 (f := .mem bk 0 (ints .u32 k)) h3 off_nil).read 1 (f := .sl p 1 (ints .u8 b)) h2 off_nil) ?_
  refine cd_seq ?_
  refine cd_region ?_
  refine st_box (h := 3) rfl rfl rfl rfl (fun b3 => ?_)
  refine st_alloc (h := 6) ty168 rfl rfl rfl (fun b6 => ?_)
  refine op_nil ?_
  refine ax_then ?_
  refine At.regs (L' := [(1, _), (2, _), (3, _), (6, _)]) (.cons rfl (.cons rfl (.cons rfl (.cons rfl (.nil _))))) ?_
  refine cd_seq ?_
  refine cd_region ?_
  refine st_alloc (h := 7) ty169 rfl rfl rfl (fun b7 => ?_)
  refine op_nil ?_
  refine ax_then ?_
  refine At.regs (L' := [(1, _), (2, _), (3, _), (6, _), (7, _)]) (.cons rfl (.cons rfl (.cons rfl (.cons rfl (.cons rfl (.nil _)))))) ?_
  refine cd_seq ?_
  refine cd_seq ?_
  refine cd_region ?_
  refine st (ev_assign rfl) rfl rfl rfl ?_
  refine op_nil ?_
  refine ax_then ?_
  refine At.regs (L' := [(1, _), (2, _), (3, _), (6, _), (7, _), (8, _)]) (.cons rfl (.cons rfl (.cons rfl (.cons rfl (.cons rfl (.cons rfl (.nil _))))))) ?_
  refine cd_block ?_
  refine cd_loop (ι := Nat) (fun i => i ≤ 16) (fun i => 16 - i)
      (fun i => [(1, p), (2, .pointer (some ⟨bk, 0, none⟩)), (3, .pointer (some ⟨b3, 0, none⟩)), (6, .pointer (some ⟨b6, 0, none⟩)), (7, .pointer (some ⟨b7, 0, none⟩)), (8, .int .i64 (i : Int))])
      (fun i => [(3, .blk b3 (.cells (ints .u32 (s)).toArray 168)), (6, .blk b6 (.cells (ints .u32 (List.replicate 8 0)).toArray 168)), (7, .blk b7 (.cells (ints .u32 (w1 b i)).toArray 169))])
      (fun i => [(1, .sl p 1 (ints .u8 b)), (2, .mem bk 0 (ints .u32 k))])
      0 (by omega) (.cons rfl (.cons rfl (.cons rfl (.cons rfl (.cons rfl (.cons rfl (.nil _))))))) (.cons rfl (.cons rfl (.cons rfl (.nil _)))) (.cons rfl (.cons rfl (.nil _))) (fun i hi => ?_)
  have hw1 := w1_len b i
  refine cd_seq ?_
  refine cd_seq ?_
  refine cd_region ?_
  refine st (ev_move rfl) rfl rfl rfl ?_
  refine st (ev_lss rfl rfl) rfl rfl rfl ?_
  refine op_nil ?_
  refine ax_then ?_
  refine At.regs (L' := [(1, _), (2, _), (3, _), (6, _), (7, _), (8, _), (19, _), (20, _)]) (.cons rfl (.cons rfl (.cons rfl (.cons rfl (.cons rfl (.cons rfl (.cons rfl (.cons rfl (.nil _))))))))) ?_
  refine cd_if rfl (fun hc20 => ?_) (fun hc20 => ?_)
  ·
    refine cd_skip ?_
    refine ax_then ?_
    refine At.regs (L' := [(1, _), (2, _), (3, _), (6, _), (7, _), (8, _), (19, _), (20, _)]) (.cons rfl (.cons rfl (.cons rfl (.cons rfl (.cons rfl (.cons rfl (.cons rfl (.cons rfl (.nil _))))))))) ?_
    refine cd_seq ?_
    refine cd_block ?_
    refine cd_open_tail 34 hmix (by decide +kernel) ?_
    refine qt (ev_move rfl) rfl rfl rfl ?_
    refine qt (ev_move rfl) rfl rfl rfl ?_
    refine qt (ev_move rfl) rfl rfl rfl ?_
    refine qt (ev_mul64 rfl rfl (by omega) (by omega)) rfl rfl rfl ?_
    refine qt (ev_indexAddr_rdi (h := 1) Try.underlying28 ty5 rfl rfl rfl (by omega) (by first | omega | (simp only [List.length_append, List.length_cons, List.length_nil, List.length_set, List.length_replicate, List.length_take, List.length_drop, ints_length, wr_length, comp_len, absorb_len, S0_len] <;> omega))) rfl rfl rfl ?_
    refine qt (ld_rd1 (h := 1) ty5 rfl rfl rfl (ints_get _ _ _ (by first | omega | (simp only [List.length_append, List.length_cons, List.length_nil, List.length_set, List.length_replicate, List.length_take, List.length_drop, ints_length, wr_length, comp_len, absorb_len, S0_len] <;> omega) | rfl))) rfl rfl rfl ?_
    refine qt (ev_conv Try.underlying5 Try.underlying167 rfl) rfl rfl rfl ?_
    refine qt (ev_shl rfl rfl (by omega)) rfl rfl rfl ?_
    refine qt (ev_move rfl) rfl rfl rfl ?_
    refine qt (ev_move rfl) rfl rfl rfl ?_
    refine qt (ev_mul64 rfl rfl (by omega) (by omega)) rfl rfl rfl ?_
    refine qt (ev_add64 rfl rfl (by omega) (by omega)) rfl rfl rfl ?_
    refine qt (ev_indexAddr_rdi (h := 1) Try.underlying28 ty5 rfl rfl rfl (by omega) (by first | omega | (simp only [List.length_append, List.length_cons, List.length_nil, List.length_set, List.length_replicate, List.length_take, List.length_drop, ints_length, wr_length, comp_len, absorb_len, S0_len] <;> omega))) rfl rfl rfl ?_
    refine qt (ld_rd1 (h := 1) ty5 rfl rfl rfl (ints_get _ _ _ (by first | omega | (simp only [List.length_append, List.length_cons, List.length_nil, List.length_set, List.length_replicate, List.length_take, List.length_drop, ints_length, wr_length, comp_len, absorb_len, S0_len] <;> omega) | rfl))) rfl rfl rfl ?_
    refine qt (ev_conv Try.underlying5 Try.underlying167 rfl) rfl rfl rfl ?_
    refine qt (ev_shl rfl rfl (by omega)) rfl rfl rfl ?_
    refine qt (ev_or rfl rfl) rfl rfl rfl ?_
    refine qt (ev_move rfl) rfl rfl rfl ?_
    refine qt (ev_move rfl) rfl rfl rfl ?_
    refine qt (ev_mul64 rfl rfl (by omega) (by omega)) rfl rfl rfl ?_
    refine qt (ev_add64 rfl rfl (by omega) (by omega)) rfl rfl rfl ?_
    refine qt (ev_indexAddr_rdi (h := 1) Try.underlying28 ty5 rfl rfl rfl (by omega) (by first | omega | (simp only [List.length_append, List.length_cons, List.length_nil, List.length_set, List.length_replicate, List.length_take, List.length_drop, ints_length, wr_length, comp_len, absorb_len, S0_len] <;> omega))) rfl rfl rfl ?_
    refine qt (ld_rd1 (h := 1) ty5 rfl rfl rfl (ints_get _ _ _ (by first | omega | (simp only [List.length_append, List.length_cons, List.length_nil, List.length_set, List.length_replicate, List.length_take, List.length_drop, ints_length, wr_length, comp_len, absorb_len, S0_len] <;> omega) | rfl))) rfl rfl rfl ?_
    refine qt (ev_conv Try.underlying5 Try.underlying167 rfl) rfl rfl rfl ?_
    refine qt (ev_shl rfl rfl (by omega)) rfl rfl rfl ?_
    refine qt (ev_or rfl rfl) rfl rfl rfl ?_
    refine qt (ev_move rfl) rfl rfl rfl ?_
    refine qt (ev_move rfl) rfl rfl rfl ?_
    refine qt (ev_mul64 rfl rfl (by omega) (by omega)) rfl rfl rfl ?_
    refine qt (ev_add64 rfl rfl (by omega) (by omega)) rfl rfl rfl ?_
    refine qt (ev_indexAddr_rdi (h := 1) Try.underlying28 ty5 rfl rfl rfl (by omega) (by first | omega | (simp only [List.length_append, List.length_cons, List.length_nil, List.length_set, List.length_replicate, List.length_take, List.length_drop, ints_length, wr_length, comp_len, absorb_len, S0_len] <;> omega))) rfl rfl rfl ?_
    refine qt (ld_rd1 (h := 1) ty5 rfl rfl rfl (ints_get _ _ _ (by first | omega | (simp only [List.length_append, List.length_cons, List.length_nil, List.length_set, List.length_replicate, List.length_take, List.length_drop, ints_length, wr_length, comp_len, absorb_len, S0_len] <;> omega) | rfl))) rfl rfl rfl ?_
    refine qt (ev_conv Try.underlying5 Try.underlying167 rfl) rfl rfl rfl ?_
    refine qt (ev_or rfl rfl) rfl rfl rfl ?_
    refine qt_end ?_
    refine st (ev_indexAddr_arr Try.underlying169 ty167 rfl rfl (by omega) (by omega)) rfl rfl rfl ?_
    refine st_store1 7 ty167 rfl rfl rfl rfl (by first | omega | (simp only [List.length_append, List.length_cons, List.length_nil, List.length_set, List.length_replicate, List.length_take, List.length_drop, ints_length, wr_length, comp_len, absorb_len, S0_len] <;> omega) | rfl) rfl ?_
    refine at_heq (i := 7) rfl (by rw [ints_set]) ?_
    refine op_nil ?_
    refine ax_block ?_
    refine ax_then ?_
    refine At.regs (L' := [(1, _), (2, _), (3, _), (6, _), (7, _), (8, _), (19, _), (20, _), (23, _), (24, _), (25, _), (26, _), (27, _), (28, _), (29, _), (30, _), (31, _), (32, _), (33, _), (34, _), (35, _), (36, _), (37, _), (38, _), (39, _), (40, _), (41, _), (42, _), (43, _), (44, _), (45, _), (46, _), (47, _), (48, _), (49, _), (50, _), (51, _), (52, _), (53, _), (54, _), (55, _), (56, _), (57, _)]) (.cons rfl (.cons rfl (.cons rfl (.cons rfl (.cons rfl (.cons rfl (.cons rfl (.cons rfl (.cons rfl (.cons rfl (.cons rfl (.cons rfl (.cons rfl (.cons rfl (.cons rfl (.cons rfl (.cons rfl (.cons rfl (.cons rfl (.cons rfl (.cons rfl (.cons rfl (.cons rfl (.cons rfl (.cons rfl (.cons rfl (.cons rfl (.cons rfl (.cons rfl (.cons rfl (.cons rfl (.cons rfl (.cons rfl (.cons rfl (.cons rfl (.cons rfl (.cons rfl (.cons rfl (.cons rfl (.cons rfl (.cons rfl (.cons rfl (.cons rfl (.nil _)))))))))))))))))))))))))))))))))))))))))))) ?_
    refine cd_region ?_
    refine st (ev_move rfl) rfl rfl rfl ?_
    refine st (ev_add64 rfl rfl (by omega) (by omega)) rfl rfl rfl ?_
    refine st (ev_assign rfl) rfl rfl rfl ?_
    refine op_nil ?_
    have e0 : 0 + (i : Int).toNat * 1 = i := by omega
    have e1 : (4 * (i : Int)).toNat = 4 * i := by omega
    have e2 : (4 * (i : Int) + 1).toNat = 4 * i + 1 := by omega
    have e3 : (4 * (i : Int) + 2).toNat = 4 * i + 2 := by omega
    have e4 : (4 * (i : Int) + 3).toNat = 4 * i + 3 := by omega
    refine ax_heq (i := 7) (v' := .blk b7 (.cells (ints .u32 (w1 b (i + 1))).toArray 169)) rfl (by simp only [e0, e1, e2, e3, e4]; rfl) ?_
    exact at_again (i + 1) (by omega) (by omega) (.cons rfl (.cons rfl (.cons rfl (.cons rfl (.cons rfl (.cons rfl (.nil _))))))) (.cons rfl (.cons rfl (.cons rfl (.nil _)))) (.cons rfl (.cons rfl (.nil _)))
  ·
    obtain rfl : i = 16 := by omega
    refine cd_exit ?_
    refine ax_then_exit ?_
    refine ax_then_exit ?_
    refine ax_block_hit ?_
    refine ax_then ?_
    refine At.regs (L' := [(2, _), (3, _), (6, _), (7, _)]) (.cons rfl (.cons rfl (.cons rfl (.cons rfl (.nil _))))) ?_
    refine cd_seq ?_
    refine cd_seq ?_
    refine cd_region ?_
    refine st (ev_assign rfl) rfl rfl rfl ?_
    refine op_nil ?_
    refine ax_then ?_
    refine At.regs (L' := [(2, _), (3, _), (6, _), (7, _), (9, _)]) (.cons rfl (.cons rfl (.cons rfl (.cons rfl (.cons rfl (.nil _)))))) ?_
    refine cd_block ?_
    refine cd_loop (ι := Nat) (fun i => i ≤ 48) (fun i => 48 - i)
        (fun i => [(2, .pointer (some ⟨bk, 0, none⟩)), (3, .pointer (some ⟨b3, 0, none⟩)), (6, .pointer (some ⟨b6, 0, none⟩)), (7, .pointer (some ⟨b7, 0, none⟩)), (9, .int .i64 (16 + (i : Int)))])
        (fun i => [(3, .blk b3 (.cells (ints .u32 (s)).toArray 168)), (6, .blk b6 (.cells (ints .u32 (List.replicate 8 0)).toArray 168)), (7, .blk b7 (.cells (ints .u32 (w2 (w1 b 16) i)).toArray 169))])
        (fun i => [(1, .sl p 1 (ints .u8 b)), (2, .mem bk 0 (ints .u32 k))])
        0 (by omega) (.cons rfl (.cons rfl (.cons rfl (.cons rfl (.cons rfl (.nil _)))))) (.cons rfl (.cons rfl (.cons rfl (.nil _)))) (.cons rfl (.cons rfl (.nil _))) (fun i hi => ?_)
    have hw2 := w2_len (w1 b 16) i
    rw [w1_len] at hw2
    refine cd_seq ?_
    refine cd_seq ?_
    refine cd_region ?_
    refine st (ev_move rfl) rfl rfl rfl ?_
    refine st (ev_lss rfl rfl) rfl rfl rfl ?_
    refine op_nil ?_
    refine ax_then ?_
    refine At.regs (L' := [(2, _), (3, _), (6, _), (7, _), (9, _), (58, _), (59, _)]) (.cons rfl (.cons rfl (.cons rfl (.cons rfl (.cons rfl (.cons rfl (.cons rfl (.nil _)))))))) ?_
    refine cd_if rfl (fun hc59 => ?_) (fun hc59 => ?_)
    ·
      refine cd_skip ?_
      refine ax_then ?_
      refine At.regs (L' := [(2, _), (3, _), (6, _), (7, _), (9, _), (58, _), (59, _)]) (.cons rfl (.cons rfl (.cons rfl (.cons rfl (.cons rfl (.cons rfl (.cons rfl (.nil _)))))))) ?_
      refine cd_seq ?_
      refine cd_block ?_
      refine cd_seq ?_
      refine cd_region ?_
      refine st (ev_move rfl) rfl rfl rfl ?_
      refine st (ev_sub64 rfl rfl (by omega) (by omega)) rfl rfl rfl ?_
      refine st (ev_indexAddr_arr Try.underlying169 ty167 rfl rfl (by omega) (by omega)) rfl rfl rfl ?_
      refine st (ld_blk1 (h := 7) ty167 rfl rfl rfl (ints_get _ _ _ (by first | omega | (simp only [List.length_append, List.length_cons, List.length_nil, List.length_set, List.length_replicate, List.length_take, List.length_drop, ints_length, wr_length, comp_len, absorb_len, S0_len] <;> omega) | rfl))) rfl rfl rfl ?_
      refine st (ev_assign rfl) rfl rfl rfl ?_
      refine op_nil ?_
      refine ax_then ?_
      refine At.regs (L' := [(2, _), (3, _), (6, _), (7, _), (9, _), (10, _), (58, _), (59, _), (62, _), (63, _), (64, _), (65, _)]) (.cons rfl (.cons rfl (.cons rfl (.cons rfl (.cons rfl (.cons rfl (.cons rfl (.cons rfl (.cons rfl (.cons rfl (.cons rfl (.cons rfl (.nil _))))))))))))) ?_
      refine cd_seq ?_
      refine cd_region ?_
      refine st (ev_move rfl) rfl rfl rfl ?_
      refine st (ev_sub64 rfl rfl (by omega) (by omega)) rfl rfl rfl ?_
      refine st (ev_indexAddr_arr Try.underlying169 ty167 rfl rfl (by omega) (by omega)) rfl rfl rfl ?_
      refine st (ld_blk1 (h := 7) ty167 rfl rfl rfl (ints_get _ _ _ (by first | omega | (simp only [List.length_append, List.length_cons, List.length_nil, List.length_set, List.length_replicate, List.length_take, List.length_drop, ints_length, wr_length, comp_len, absorb_len, S0_len] <;> omega) | rfl))) rfl rfl rfl ?_
      refine st (ev_assign rfl) rfl rfl rfl ?_
      refine op_nil ?_
      refine ax_then ?_
      refine At.regs (L' := [(2, _), (3, _), (6, _), (7, _), (9, _), (10, _), (11, _), (58, _), (59, _), (62, _), (63, _), (64, _), (65, _), (66, _), (67, _), (68, _), (69, _)]) (.cons rfl (.cons rfl (.cons rfl (.cons rfl (.cons rfl (.cons rfl (.cons rfl (.cons rfl (.cons rfl (.cons rfl (.cons rfl (.cons rfl (.cons rfl (.cons rfl (.cons rfl (.cons rfl (.cons rfl (.nil _)))))))))))))))))) ?_
      refine cd_open_tail 28 hmix (by decide +kernel) ?_
      refine qt (ev_move rfl) rfl rfl rfl ?_
      refine qt (ev_move rfl) rfl rfl rfl ?_
      refine qt (ev_sub64 rfl rfl (by omega) (by omega)) rfl rfl rfl ?_
      refine qt (ev_indexAddr_arr Try.underlying169 ty167 rfl rfl (by omega) (by omega)) rfl rfl rfl ?_
      refine qt (ld_blk1 (h := 7) ty167 rfl rfl rfl (ints_get _ _ _ (by first | omega | (simp only [List.length_append, List.length_cons, List.length_nil, List.length_set, List.length_replicate, List.length_take, List.length_drop, ints_length, wr_length, comp_len, absorb_len, S0_len] <;> omega) | rfl))) rfl rfl rfl ?_
      refine qt (ev_move rfl) rfl rfl rfl ?_
      refine qt_callv has130 rfl (fun w1 sw => r_any _ _ w1 (by omega) (by omega)) rfl rfl ?_
      refine qt (ev_move rfl) rfl rfl rfl ?_
      refine qt_callv has130 rfl (fun w1 sw => r_any _ _ w1 (by omega) (by omega)) rfl rfl ?_
      refine qt (ev_xor rfl rfl) rfl rfl rfl ?_
      refine qt (ev_move rfl) rfl rfl rfl ?_
      refine qt (ev_shr rfl rfl (by omega)) rfl rfl rfl ?_
      refine qt (ev_xor rfl rfl) rfl rfl rfl ?_
      refine qt (ev_add rfl rfl) rfl rfl rfl ?_
      refine qt (ev_move rfl) rfl rfl rfl ?_
      refine qt (ev_sub64 rfl rfl (by omega) (by omega)) rfl rfl rfl ?_
      refine qt (ev_indexAddr_arr Try.underlying169 ty167 rfl rfl (by omega) (by omega)) rfl rfl rfl ?_
      refine qt (ld_blk1 (h := 7) ty167 rfl rfl rfl (ints_get _ _ _ (by first | omega | (simp only [List.length_append, List.length_cons, List.length_nil, List.length_set, List.length_replicate, List.length_take, List.length_drop, ints_length, wr_length, comp_len, absorb_len, S0_len] <;> omega) | rfl))) rfl rfl rfl ?_
      refine qt (ev_add rfl rfl) rfl rfl rfl ?_
      refine qt (ev_move rfl) rfl rfl rfl ?_
      refine qt_callv has130 rfl (fun w1 sw => r_any _ _ w1 (by omega) (by omega)) rfl rfl ?_
      refine qt (ev_move rfl) rfl rfl rfl ?_
      refine qt_callv has130 rfl (fun w1 sw => r_any _ _ w1 (by omega) (by omega)) rfl rfl ?_
      refine qt (ev_xor rfl rfl) rfl rfl rfl ?_
      refine qt (ev_move rfl) rfl rfl rfl ?_
      refine qt (ev_shr rfl rfl (by omega)) rfl rfl rfl ?_
      refine qt (ev_xor rfl rfl) rfl rfl rfl ?_
      refine qt (ev_add rfl rfl) rfl rfl rfl ?_
      refine qt_end ?_
      refine st (ev_indexAddr_arr Try.underlying169 ty167 rfl rfl (by omega) (by omega)) rfl rfl rfl ?_
      refine st_store1 7 ty167 rfl rfl rfl rfl (by first | omega | (simp only [List.length_append, List.length_cons, List.length_nil, List.length_set, List.length_replicate, List.length_take, List.length_drop, ints_length, wr_length, comp_len, absorb_len, S0_len] <;> omega) | rfl) rfl ?_
      refine at_heq (i := 7) rfl (by rw [ints_set]) ?_
      refine op_nil ?_
      refine ax_block ?_
      refine ax_then ?_
      refine At.regs (L' := [(2, _), (3, _), (6, _), (7, _), (9, _), (10, _), (11, _), (58, _), (59, _), (62, _), (63, _), (64, _), (65, _), (66, _), (67, _), (68, _), (69, _), (70, _), (71, _), (72, _), (73, _), (74, _), (75, _), (76, _), (77, _), (78, _), (79, _), (80, _), (81, _), (82, _), (83, _), (84, _), (85, _), (86, _), (87, _), (88, _), (89, _), (90, _), (91, _), (92, _), (93, _), (94, _), (95, _), (96, _), (97, _), (98, _)]) (.cons rfl (.cons rfl (.cons rfl (.cons rfl (.cons rfl (.cons rfl (.cons rfl (.cons rfl (.cons rfl (.cons rfl (.cons rfl (.cons rfl (.cons rfl (.cons rfl (.cons rfl (.cons rfl (.cons rfl (.cons rfl (.cons rfl (.cons rfl (.cons rfl (.cons rfl (.cons rfl (.cons rfl (.cons rfl (.cons rfl (.cons rfl (.cons rfl (.cons rfl (.cons rfl (.cons rfl (.cons rfl (.cons rfl (.cons rfl (.cons rfl (.cons rfl (.cons rfl (.cons rfl (.cons rfl (.cons rfl (.cons rfl (.cons rfl (.cons rfl (.cons rfl (.cons rfl (.cons rfl (.nil _))))))))))))))))))))))))))))))))))))))))))))))) ?_
      refine cd_region ?_
      refine st (ev_move rfl) rfl rfl rfl ?_
      refine st (ev_add64 rfl rfl (by omega) (by omega)) rfl rfl rfl ?_
      refine st (ev_assign rfl) rfl rfl rfl ?_
      refine op_nil ?_
      have e0 : 0 + (16 + (i : Int)).toNat * 1 = 16 + i := by omega
      have e1 : 0 + (16 + (i : Int) - 16).toNat * 1 = 16 + i - 16 := by omega
      have e2 : 0 + (16 + (i : Int) - 15).toNat * 1 = 16 + i - 15 := by omega
      have e3 : 0 + (16 + (i : Int) - 7).toNat * 1 = 16 + i - 7 := by omega
      have e4 : 0 + (16 + (i : Int) - 2).toNat * 1 = 16 + i - 2 := by omega
      refine ax_heq (i := 7) (v' := .blk b7 (.cells (ints .u32 (w2 (w1 b 16) (i + 1))).toArray 169)) rfl (by simp only [e0, e1, e2, e3, e4]; rfl) ?_
      exact at_again (i + 1) (by omega) (by omega) (.cons rfl (.cons rfl (.cons rfl (.cons rfl (.cons rfl (.nil _)))))) (.cons rfl (.cons rfl (.cons rfl (.nil _)))) (.cons rfl (.cons rfl (.nil _)))
    ·
      obtain rfl : i = 48 := by omega
      refine cd_exit ?_
      refine ax_then_exit ?_
      refine ax_then_exit ?_
      refine ax_block_hit ?_
      refine ax_then ?_
      refine At.regs (L' := [(2, _), (3, _), (6, _), (7, _)]) (.cons rfl (.cons rfl (.cons rfl (.cons rfl (.nil _))))) ?_
      refine cd_seq ?_
      refine cd_region ?_
      refine st (ld_blk_all (h := 3) ty168 rfl rfl rfl (by first | omega | (simp only [List.length_append, List.length_cons, List.length_nil, List.length_set, List.length_replicate, List.length_take, List.length_drop, ints_length, wr_length, comp_len, absorb_len, S0_len] <;> omega) | rfl)) rfl rfl rfl ?_
      refine st_alloc (h := 12) ty168 rfl rfl rfl (fun b12 => ?_)
      refine st_store_all 12 ty168 rfl rfl rfl rfl (by first | omega | (simp only [List.length_append, List.length_cons, List.length_nil, List.length_set, List.length_replicate, List.length_take, List.length_drop, ints_length, wr_length, comp_len, absorb_len, S0_len] <;> omega) | rfl) (ints_one _ _) (by first | omega | (simp only [List.length_append, List.length_cons, List.length_nil, List.length_set, List.length_replicate, List.length_take, List.length_drop, ints_length, wr_length, comp_len, absorb_len, S0_len] <;> omega) | rfl) rfl ?_
      refine op_nil ?_
      refine ax_then ?_
      refine At.regs (L' := [(2, _), (3, _), (6, _), (7, _), (12, _)]) (.cons rfl (.cons rfl (.cons rfl (.cons rfl (.cons rfl (.nil _)))))) ?_
      refine cd_seq ?_
      refine cd_seq ?_
      refine cd_region ?_
      refine st (ev_assign rfl) rfl rfl rfl ?_
      refine op_nil ?_
      refine ax_then ?_
      refine At.regs (L' := [(2, _), (3, _), (6, _), (7, _), (12, _), (13, _)]) (.cons rfl (.cons rfl (.cons rfl (.cons rfl (.cons rfl (.cons rfl (.nil _))))))) ?_
      refine cd_block ?_
      refine cd_loop (ι := Nat) (fun i => i ≤ 64) (fun i => 64 - i)
          (fun i => [(2, .pointer (some ⟨bk, 0, none⟩)), (3, .pointer (some ⟨b3, 0, none⟩)), (6, .pointer (some ⟨b6, 0, none⟩)), (7, .pointer (some ⟨b7, 0, none⟩)), (12, .pointer (some ⟨b12, 0, none⟩)), (13, .int .i64 (i : Int))])
          (fun i => [(3, .blk b3 (.cells (ints .u32 (s)).toArray 168)), (6, .blk b6 (.cells (ints .u32 (List.replicate 8 0)).toArray 168)), (7, .blk b7 (.cells (ints .u32 (sched b)).toArray 169)), (12, .blk b12 (.cells (ints .u32 (rnds k (sched b) s i)).toArray 168))])
          (fun i => [(1, .sl p 1 (ints .u8 b)), (2, .mem bk 0 (ints .u32 k))])
          0 (by omega) (.cons rfl (.cons rfl (.cons rfl (.cons rfl (.cons rfl (.cons rfl (.nil _))))))) (.cons rfl (.cons rfl (.cons rfl (.cons rfl (.nil _))))) (.cons rfl (.cons rfl (.nil _))) (fun i hi => ?_)
      have hv := rnds_len k (sched b) s hs i
      have hw := sched_len b
      refine cd_seq ?_
      refine cd_seq ?_
      refine cd_region ?_
      refine st (ev_move rfl) rfl rfl rfl ?_
      refine st (ev_lss rfl rfl) rfl rfl rfl ?_
      refine op_nil ?_
      refine ax_then ?_
      refine At.regs (L' := [(2, _), (3, _), (6, _), (7, _), (12, _), (13, _), (100, _), (101, _)]) (.cons rfl (.cons rfl (.cons rfl (.cons rfl (.cons rfl (.cons rfl (.cons rfl (.cons rfl (.nil _))))))))) ?_
      refine cd_if rfl (fun hc101 => ?_) (fun hc101 => ?_)
      ·
        refine cd_skip ?_
        refine ax_then ?_
        refine At.regs (L' := [(2, _), (3, _), (6, _), (7, _), (12, _), (13, _), (100, _), (101, _)]) (.cons rfl (.cons rfl (.cons rfl (.cons rfl (.cons rfl (.cons rfl (.cons rfl (.cons rfl (.nil _))))))))) ?_
        refine cd_seq ?_
        refine cd_block ?_
        refine cd_seq ?_
        refine cd_open hmix (by decide +kernel) ?_
        refine qt (ev_indexAddr_arrm 0 rfl Try.underlying168 ty167 rfl rfl (by decide) (by decide)) rfl rfl rfl ?_
        refine qt (ld_blk1 (h := 12) ty167 rfl rfl rfl (ints_get _ _ _ (by first | omega | (simp only [List.length_append, List.length_cons, List.length_nil, List.length_set, List.length_replicate, List.length_take, List.length_drop, ints_length, wr_length, comp_len, absorb_len, S0_len] <;> omega) | rfl))) rfl rfl rfl ?_
        refine qt (ev_indexAddr_arrm 4 rfl Try.underlying168 ty167 rfl rfl (by decide) (by decide)) rfl rfl rfl ?_
        refine qt (ld_blk1 (h := 12) ty167 rfl rfl rfl (ints_get _ _ _ (by first | omega | (simp only [List.length_append, List.length_cons, List.length_nil, List.length_set, List.length_replicate, List.length_take, List.length_drop, ints_length, wr_length, comp_len, absorb_len, S0_len] <;> omega) | rfl))) rfl rfl rfl ?_
        refine qt (ev_assign rfl) rfl rfl rfl ?_
        refine qt (ev_assign rfl) rfl rfl rfl ?_
        refine qt_end ?_
        refine op_nil ?_
        refine ax_then ?_
        refine At.regs (L' := [(2, _), (3, _), (6, _), (7, _), (12, _), (13, _), (14, _), (15, _), (100, _), (101, _), (104, _), (105, _), (106, _), (107, _)]) (.cons rfl (.cons rfl (.cons rfl (.cons rfl (.cons rfl (.cons rfl (.cons rfl (.cons rfl (.cons rfl (.cons rfl (.cons rfl (.cons rfl (.cons rfl (.cons rfl (.nil _))))))))))))))) ?_
        refine cd_seq ?_
        refine cd_open hmix (by decide +kernel) ?_
        refine qt (ev_indexAddr_arrm 7 rfl Try.underlying168 ty167 rfl rfl (by decide) (by decide)) rfl rfl rfl ?_
        refine qt (ld_blk1 (h := 12) ty167 rfl rfl rfl (ints_get _ _ _ (by first | omega | (simp only [List.length_append, List.length_cons, List.length_nil, List.length_set, List.length_replicate, List.length_take, List.length_drop, ints_length, wr_length, comp_len, absorb_len, S0_len] <;> omega) | rfl))) rfl rfl rfl ?_
        refine qt (ev_move rfl) rfl rfl rfl ?_
        refine qt_callv has130 rfl (fun w1 sw => r_any _ _ w1 (by omega) (by omega)) rfl rfl ?_
        refine qt (ev_move rfl) rfl rfl rfl ?_
        refine qt_callv has130 rfl (fun w1 sw => r_any _ _ w1 (by omega) (by omega)) rfl rfl ?_
        refine qt (ev_xor rfl rfl) rfl rfl rfl ?_
        refine qt (ev_move rfl) rfl rfl rfl ?_
        refine qt_callv has130 rfl (fun w1 sw => r_any _ _ w1 (by omega) (by omega)) rfl rfl ?_
        refine qt (ev_xor rfl rfl) rfl rfl rfl ?_
        refine qt (ev_add rfl rfl) rfl rfl rfl ?_
        refine qt (ev_move rfl) rfl rfl rfl ?_
        refine qt (ev_indexAddr_arrm 5 rfl Try.underlying168 ty167 rfl rfl (by decide) (by decide)) rfl rfl rfl ?_
        refine qt (ld_blk1 (h := 12) ty167 rfl rfl rfl (ints_get _ _ _ (by first | omega | (simp only [List.length_append, List.length_cons, List.length_nil, List.length_set, List.length_replicate, List.length_take, List.length_drop, ints_length, wr_length, comp_len, absorb_len, S0_len] <;> omega) | rfl))) rfl rfl rfl ?_
        refine qt (ev_and rfl rfl) rfl rfl rfl ?_
        refine qt (ev_move rfl) rfl rfl rfl ?_
        refine qt (ev_inot rfl) rfl rfl rfl ?_
        refine qt (ev_indexAddr_arrm 6 rfl Try.underlying168 ty167 rfl rfl (by decide) (by decide)) rfl rfl rfl ?_
        refine qt (ld_blk1 (h := 12) ty167 rfl rfl rfl (ints_get _ _ _ (by first | omega | (simp only [List.length_append, List.length_cons, List.length_nil, List.length_set, List.length_replicate, List.length_take, List.length_drop, ints_length, wr_length, comp_len, absorb_len, S0_len] <;> omega) | rfl))) rfl rfl rfl ?_
        refine qt (ev_and rfl rfl) rfl rfl rfl ?_
        refine qt (ev_xor rfl rfl) rfl rfl rfl ?_
        refine qt (ev_add rfl rfl) rfl rfl rfl ?_
        refine qt (ev_move rfl) rfl rfl rfl ?_
        refine qt (ev_move rfl) rfl rfl rfl ?_
        refine qt (ev_nilCheck rfl) rfl rfl rfl ?_
        refine qt (ev_indexAddr_arr Try.underlying169 ty167 rfl rfl (by omega) (by omega)) rfl rfl rfl ?_
        refine qt (ld_mem1 (h := 2) ty167 rfl rfl rfl (Nat.zero_add _).symm (ints_get _ _ _ (by first | omega | (simp only [List.length_append, List.length_cons, List.length_nil, List.length_set, List.length_replicate, List.length_take, List.length_drop, ints_length, wr_length, comp_len, absorb_len, S0_len] <;> omega) | rfl))) rfl rfl rfl ?_
        refine qt (ev_add rfl rfl) rfl rfl rfl ?_
        refine qt (ev_move rfl) rfl rfl rfl ?_
        refine qt (ev_indexAddr_arr Try.underlying169 ty167 rfl rfl (by omega) (by omega)) rfl rfl rfl ?_
        refine qt (ld_blk1 (h := 7) ty167 rfl rfl rfl (ints_get _ _ _ (by first | omega | (simp only [List.length_append, List.length_cons, List.length_nil, List.length_set, List.length_replicate, List.length_take, List.length_drop, ints_length, wr_length, comp_len, absorb_len, S0_len] <;> omega) | rfl))) rfl rfl rfl ?_
        refine qt (ev_add rfl rfl) rfl rfl rfl ?_
        refine qt (ev_assign rfl) rfl rfl rfl ?_
        refine qt_end ?_
        refine op_nil ?_
        refine ax_then ?_
        refine At.regs (L' := [(2, _), (3, _), (6, _), (7, _), (12, _), (13, _), (14, _), (15, _), (16, _), (100, _), (101, _), (104, _), (105, _), (106, _), (107, _), (108, _), (109, _), (110, _), (111, _), (112, _), (113, _), (114, _), (115, _), (116, _), (117, _), (118, _), (119, _), (120, _), (121, _), (122, _), (123, _), (124, _), (125, _), (126, _), (127, _), (128, _), (129, _), (130, _), (131, _), (132, _), (133, _), (134, _), (135, _), (136, _), (137, _), (138, _), (139, _)]) (.cons rfl (.cons rfl (.cons rfl (.cons rfl (.cons rfl (.cons rfl (.cons rfl (.cons rfl (.cons rfl (.cons rfl (.cons rfl (.cons rfl (.cons rfl (.cons rfl (.cons rfl (.cons rfl (.cons rfl (.cons rfl (.cons rfl (.cons rfl (.cons rfl (.cons rfl (.cons rfl (.cons rfl (.cons rfl (.cons rfl (.cons rfl (.cons rfl (.cons rfl (.cons rfl (.cons rfl (.cons rfl (.cons rfl (.cons rfl (.cons rfl (.cons rfl (.cons rfl (.cons rfl (.cons rfl (.cons rfl (.cons rfl (.cons rfl (.cons rfl (.cons rfl (.cons rfl (.cons rfl (.cons rfl (.nil _)))))))))))))))))))))))))))))))))))))))))))))))) ?_
        refine cd_seq ?_
        refine cd_open hmix (by decide +kernel) ?_
        refine qt (ev_move rfl) rfl rfl rfl ?_
        refine qt_callv has130 rfl (fun w1 sw => r_any _ _ w1 (by omega) (by omega)) rfl rfl ?_
        refine qt (ev_move rfl) rfl rfl rfl ?_
        refine qt_callv has130 rfl (fun w1 sw => r_any _ _ w1 (by omega) (by omega)) rfl rfl ?_
        refine qt (ev_xor rfl rfl) rfl rfl rfl ?_
        refine qt (ev_move rfl) rfl rfl rfl ?_
        refine qt_callv has130 rfl (fun w1 sw => r_any _ _ w1 (by omega) (by omega)) rfl rfl ?_
        refine qt (ev_xor rfl rfl) rfl rfl rfl ?_
        refine qt (ev_move rfl) rfl rfl rfl ?_
        refine qt (ev_indexAddr_arrm 1 rfl Try.underlying168 ty167 rfl rfl (by decide) (by decide)) rfl rfl rfl ?_
        refine qt (ld_blk1 (h := 12) ty167 rfl rfl rfl (ints_get _ _ _ (by first | omega | (simp only [List.length_append, List.length_cons, List.length_nil, List.length_set, List.length_replicate, List.length_take, List.length_drop, ints_length, wr_length, comp_len, absorb_len, S0_len] <;> omega) | rfl))) rfl rfl rfl ?_
        refine qt (ev_and rfl rfl) rfl rfl rfl ?_
        refine qt (ev_move rfl) rfl rfl rfl ?_
        refine qt (ev_indexAddr_arrm 2 rfl Try.underlying168 ty167 rfl rfl (by decide) (by decide)) rfl rfl rfl ?_
        refine qt (ld_blk1 (h := 12) ty167 rfl rfl rfl (ints_get _ _ _ (by first | omega | (simp only [List.length_append, List.length_cons, List.length_nil, List.length_set, List.length_replicate, List.length_take, List.length_drop, ints_length, wr_length, comp_len, absorb_len, S0_len] <;> omega) | rfl))) rfl rfl rfl ?_
        refine qt (ev_and rfl rfl) rfl rfl rfl ?_
        refine qt (ev_xor rfl rfl) rfl rfl rfl ?_
        refine qt (ev_indexAddr_arrm 1 rfl Try.underlying168 ty167 rfl rfl (by decide) (by decide)) rfl rfl rfl ?_
        refine qt (ld_blk1 (h := 12) ty167 rfl rfl rfl (ints_get _ _ _ (by first | omega | (simp only [List.length_append, List.length_cons, List.length_nil, List.length_set, List.length_replicate, List.length_take, List.length_drop, ints_length, wr_length, comp_len, absorb_len, S0_len] <;> omega) | rfl))) rfl rfl rfl ?_
        refine qt (ev_indexAddr_arrm 2 rfl Try.underlying168 ty167 rfl rfl (by decide) (by decide)) rfl rfl rfl ?_
        refine qt (ld_blk1 (h := 12) ty167 rfl rfl rfl (ints_get _ _ _ (by first | omega | (simp only [List.length_append, List.length_cons, List.length_nil, List.length_set, List.length_replicate, List.length_take, List.length_drop, ints_length, wr_length, comp_len, absorb_len, S0_len] <;> omega) | rfl))) rfl rfl rfl ?_
        refine qt (ev_and rfl rfl) rfl rfl rfl ?_
        refine qt (ev_xor rfl rfl) rfl rfl rfl ?_
        refine qt (ev_add rfl rfl) rfl rfl rfl ?_
        refine qt (ev_assign rfl) rfl rfl rfl ?_
        refine qt_end ?_
        refine op_nil ?_
        refine ax_then ?_
        refine At.regs (L' := [(2, _), (3, _), (6, _), (7, _), (12, _), (13, _), (14, _), (15, _), (16, _), (17, _), (100, _), (101, _), (104, _), (105, _), (106, _), (107, _), (108, _), (109, _), (110, _), (111, _), (112, _), (113, _), (114, _), (115, _), (116, _), (117, _), (118, _), (119, _), (120, _), (121, _), (122, _), (123, _), (124, _), (125, _), (126, _), (127, _), (128, _), (129, _), (130, _), (131, _), (132, _), (133, _), (134, _), (135, _), (136, _), (137, _), (138, _), (139, _), (140, _), (141, _), (142, _), (143, _), (144, _), (145, _), (146, _), (147, _), (148, _), (149, _), (150, _), (151, _), (152, _), (153, _), (154, _), (155, _), (156, _), (157, _), (158, _), (159, _), (160, _), (161, _), (162, _), (163, _)]) (.cons rfl (.cons rfl (.cons rfl (.cons rfl (.cons rfl (.cons rfl (.cons rfl (.cons rfl (.cons rfl (.cons rfl (.cons rfl (.cons rfl (.cons rfl (.cons rfl (.cons rfl (.cons rfl (.cons rfl (.cons rfl (.cons rfl (.cons rfl (.cons rfl (.cons rfl (.cons rfl (.cons rfl (.cons rfl (.cons rfl (.cons rfl (.cons rfl (.cons rfl (.cons rfl (.cons rfl (.cons rfl (.cons rfl (.cons rfl (.cons rfl (.cons rfl (.cons rfl (.cons rfl (.cons rfl (.cons rfl (.cons rfl (.cons rfl (.cons rfl (.cons rfl (.cons rfl (.cons rfl (.cons rfl (.cons rfl (.cons rfl (.cons rfl (.cons rfl (.cons rfl (.cons rfl (.cons rfl (.cons rfl (.cons rfl (.cons rfl (.cons rfl (.cons rfl (.cons rfl (.cons rfl (.cons rfl (.cons rfl (.cons rfl (.cons rfl (.cons rfl (.cons rfl (.cons rfl (.cons rfl (.cons rfl (.cons rfl (.cons rfl (.nil _))))))))))))))))))))))))))))))))))))))))))))))))))))))))))))))))))))))))) ?_
        refine cd_region ?_
        refine st (ev_move rfl) rfl rfl rfl ?_
        refine st (ev_move rfl) rfl rfl rfl ?_
        refine st (ev_add rfl rfl) rfl rfl rfl ?_
        refine st (ev_move rfl) rfl rfl rfl ?_
        refine st (ev_indexAddr_arrm 1 rfl Try.underlying168 ty167 rfl rfl (by decide) (by decide)) rfl rfl rfl ?_
        refine st (ld_blk1 (h := 12) ty167 rfl rfl rfl (ints_get _ _ _ (by first | omega | (simp only [List.length_append, List.length_cons, List.length_nil, List.length_set, List.length_replicate, List.length_take, List.length_drop, ints_length, wr_length, comp_len, absorb_len, S0_len] <;> omega) | rfl))) rfl rfl rfl ?_
        refine st (ev_indexAddr_arrm 2 rfl Try.underlying168 ty167 rfl rfl (by decide) (by decide)) rfl rfl rfl ?_
        refine st (ld_blk1 (h := 12) ty167 rfl rfl rfl (ints_get _ _ _ (by first | omega | (simp only [List.length_append, List.length_cons, List.length_nil, List.length_set, List.length_replicate, List.length_take, List.length_drop, ints_length, wr_length, comp_len, absorb_len, S0_len] <;> omega) | rfl))) rfl rfl rfl ?_
        refine st (ev_indexAddr_arrm 3 rfl Try.underlying168 ty167 rfl rfl (by decide) (by decide)) rfl rfl rfl ?_
        refine st (ld_blk1 (h := 12) ty167 rfl rfl rfl (ints_get _ _ _ (by first | omega | (simp only [List.length_append, List.length_cons, List.length_nil, List.length_set, List.length_replicate, List.length_take, List.length_drop, ints_length, wr_length, comp_len, absorb_len, S0_len] <;> omega) | rfl))) rfl rfl rfl ?_
        refine st (ev_move rfl) rfl rfl rfl ?_
        refine st (ev_add rfl rfl) rfl rfl rfl ?_
        refine st (ev_move rfl) rfl rfl rfl ?_
        refine st (ev_indexAddr_arrm 5 rfl Try.underlying168 ty167 rfl rfl (by decide) (by decide)) rfl rfl rfl ?_
        refine st (ld_blk1 (h := 12) ty167 rfl rfl rfl (ints_get _ _ _ (by first | omega | (simp only [List.length_append, List.length_cons, List.length_nil, List.length_set, List.length_replicate, List.length_take, List.length_drop, ints_length, wr_length, comp_len, absorb_len, S0_len] <;> omega) | rfl))) rfl rfl rfl ?_
        refine st (ev_indexAddr_arrm 6 rfl Try.underlying168 ty167 rfl rfl (by decide) (by decide)) rfl rfl rfl ?_
        refine st (ld_blk1 (h := 12) ty167 rfl rfl rfl (ints_get _ _ _ (by first | omega | (simp only [List.length_append, List.length_cons, List.length_nil, List.length_set, List.length_replicate, List.length_take, List.length_drop, ints_length, wr_length, comp_len, absorb_len, S0_len] <;> omega) | rfl))) rfl rfl rfl ?_
        refine st (ev_build_ints (xs := [_, _, _, _, _, _, _, _]) (zs := List.replicate 8 0) ty168 rfl ty167 rfl rfl rfl rfl rfl) rfl rfl rfl ?_
        refine st_store_all 12 ty168 rfl rfl rfl rfl (by first | omega | (simp only [List.length_append, List.length_cons, List.length_nil, List.length_set, List.length_replicate, List.length_take, List.length_drop, ints_length, wr_length, comp_len, absorb_len, S0_len] <;> omega) | rfl) (ints_one _ _) (by first | omega | (simp only [List.length_append, List.length_cons, List.length_nil, List.length_set, List.length_replicate, List.length_take, List.length_drop, ints_length, wr_length, comp_len, absorb_len, S0_len] <;> omega) | rfl) rfl ?_
        refine op_nil ?_
        refine ax_block ?_
        refine ax_then ?_
        refine At.regs (L' := [(2, _), (3, _), (6, _), (7, _), (12, _), (13, _), (14, _), (15, _), (16, _), (17, _), (100, _), (101, _), (104, _), (105, _), (106, _), (107, _), (108, _), (109, _), (110, _), (111, _), (112, _), (113, _), (114, _), (115, _), (116, _), (117, _), (118, _), (119, _), (120, _), (121, _), (122, _), (123, _), (124, _), (125, _), (126, _), (127, _), (128, _), (129, _), (130, _), (131, _), (132, _), (133, _), (134, _), (135, _), (136, _), (137, _), (138, _), (139, _), (140, _), (141, _), (142, _), (143, _), (144, _), (145, _), (146, _), (147, _), (148, _), (149, _), (150, _), (151, _), (152, _), (153, _), (154, _), (155, _), (156, _), (157, _), (158, _), (159, _), (160, _), (161, _), (162, _), (163, _), (164, _), (165, _), (166, _), (167, _), (168, _), (169, _), (170, _), (171, _), (172, _), (173, _), (174, _), (175, _), (176, _), (177, _), (178, _), (179, _), (180, _), (181, _)]) (.cons rfl (.cons rfl (.cons rfl (.cons rfl (.cons rfl (.cons rfl (.cons rfl (.cons rfl (.cons rfl (.cons rfl (.cons rfl (.cons rfl (.cons rfl (.cons rfl (.cons rfl (.cons rfl (.cons rfl (.cons rfl (.cons rfl (.cons rfl (.cons rfl (.cons rfl (.cons rfl (.cons rfl (.cons rfl (.cons rfl (.cons rfl (.cons rfl (.cons rfl (.cons rfl (.cons rfl (.cons rfl (.cons rfl (.cons rfl (.cons rfl (.cons rfl (.cons rfl (.cons rfl (.cons rfl (.cons rfl (.cons rfl (.cons rfl (.cons rfl (.cons rfl (.cons rfl (.cons rfl (.cons rfl (.cons rfl (.cons rfl (.cons rfl (.cons rfl (.cons rfl (.cons rfl (.cons rfl (.cons rfl (.cons rfl (.cons rfl (.cons rfl (.cons rfl (.cons rfl (.cons rfl (.cons rfl (.cons rfl (.cons rfl (.cons rfl (.cons rfl (.cons rfl (.cons rfl (.cons rfl (.cons rfl (.cons rfl (.cons rfl (.cons rfl (.cons rfl (.cons rfl (.cons rfl (.cons rfl (.cons rfl (.cons rfl (.cons rfl (.cons rfl (.cons rfl (.cons rfl (.cons rfl (.cons rfl (.cons rfl (.cons rfl (.cons rfl (.cons rfl (.cons rfl (.nil _))))))))))))))))))))))))))))))))))))))))))))))))))))))))))))))))))))))))))))))))))))))))))) ?_
        refine cd_region ?_
        refine st (ev_move rfl) rfl rfl rfl ?_
        refine st (ev_add64 rfl rfl (by omega) (by omega)) rfl rfl rfl ?_
        refine st (ev_assign rfl) rfl rfl rfl ?_
        refine op_nil ?_
        have e0 : 0 + (i : Int).toNat * 1 = i := by omega
        refine ax_heq (i := 12) (v' := .blk b12 (.cells (ints .u32 (rnds k (sched b) s (i + 1))).toArray 168)) rfl (by simp only [e0]; simp only [rnds, rnd, tt, uu, add, b0, b1, ch, mj]) ?_
        exact at_again (i + 1) (by omega) (by omega) (.cons rfl (.cons rfl (.cons rfl (.cons rfl (.cons rfl (.cons rfl (.nil _))))))) (.cons rfl (.cons rfl (.cons rfl (.cons rfl (.nil _))))) (.cons rfl (.cons rfl (.nil _)))
      ·
        obtain rfl : i = 64 := by omega
        refine cd_exit ?_
        refine ax_then_exit ?_
        refine ax_then_exit ?_
        refine ax_block_hit ?_
        refine ax_then ?_
        refine At.regs (L' := [(3, _), (6, _), (12, _)]) (.cons rfl (.cons rfl (.cons rfl (.nil _)))) ?_
        refine cd_seq ?_
        refine cd_seq ?_
        refine cd_region ?_
        refine st (ev_assign rfl) rfl rfl rfl ?_
        refine op_nil ?_
        refine ax_then ?_
        refine At.regs (L' := [(3, _), (6, _), (12, _), (18, _)]) (.cons rfl (.cons rfl (.cons rfl (.cons rfl (.nil _))))) ?_
        refine cd_block ?_
        refine cd_loop (ι := Nat) (fun i => i ≤ 8) (fun i => 8 - i)
            (fun i => [(3, .pointer (some ⟨b3, 0, none⟩)), (6, .pointer (some ⟨b6, 0, none⟩)), (12, .pointer (some ⟨b12, 0, none⟩)), (18, .int .i64 (i : Int))])
            (fun i => [(3, .blk b3 (.cells (ints .u32 (adds s (rnds k (sched b) s 64) i)).toArray 168)), (6, .blk b6 (.cells (ints .u32 (List.replicate 8 0)).toArray 168)), (12, .blk b12 (.cells (ints .u32 (rnds k (sched b) s 64)).toArray 168))])
            (fun i => [(1, .sl p 1 (ints .u8 b)), (2, .mem bk 0 (ints .u32 k))])
            0 (by omega) (.cons rfl (.cons rfl (.cons rfl (.cons rfl (.nil _))))) (.cons rfl (.cons rfl (.cons rfl (.nil _)))) (.cons rfl (.cons rfl (.nil _))) (fun i hi => ?_)
        have hv := rnds_len k (sched b) s hs 64
        have hw := adds_len s (rnds k (sched b) s 64) i
        refine cd_seq ?_
        refine cd_seq ?_
        refine cd_region ?_
        refine st (ev_move rfl) rfl rfl rfl ?_
        refine st (ev_lss rfl rfl) rfl rfl rfl ?_
        refine op_nil ?_
        refine ax_then ?_
        refine At.regs (L' := [(3, _), (6, _), (12, _), (18, _), (182, _), (183, _)]) (.cons rfl (.cons rfl (.cons rfl (.cons rfl (.cons rfl (.cons rfl (.nil _))))))) ?_
        refine cd_if rfl (fun hc183 => ?_) (fun hc183 => ?_)
        ·
          refine cd_skip ?_
          refine ax_then ?_
          refine At.regs (L' := [(3, _), (6, _), (12, _), (18, _), (182, _), (183, _)]) (.cons rfl (.cons rfl (.cons rfl (.cons rfl (.cons rfl (.cons rfl (.nil _))))))) ?_
          refine cd_seq ?_
          refine cd_block ?_
          refine cd_open_tail 8 hmix (by decide +kernel) ?_
          refine qt (ev_move rfl) rfl rfl rfl ?_
          refine qt (ev_move rfl) rfl rfl rfl ?_
          refine qt (ev_indexAddr_arr Try.underlying168 ty167 rfl rfl (by omega) (by omega)) rfl rfl rfl ?_
          refine qt (ld_blk1 (h := 3) ty167 rfl rfl rfl (ints_get _ _ _ (by first | omega | (simp only [List.length_append, List.length_cons, List.length_nil, List.length_set, List.length_replicate, List.length_take, List.length_drop, ints_length, wr_length, comp_len, absorb_len, S0_len] <;> omega) | rfl))) rfl rfl rfl ?_
          refine qt (ev_move rfl) rfl rfl rfl ?_
          refine qt (ev_indexAddr_arr Try.underlying168 ty167 rfl rfl (by omega) (by omega)) rfl rfl rfl ?_
          refine qt (ld_blk1 (h := 12) ty167 rfl rfl rfl (ints_get _ _ _ (by first | omega | (simp only [List.length_append, List.length_cons, List.length_nil, List.length_set, List.length_replicate, List.length_take, List.length_drop, ints_length, wr_length, comp_len, absorb_len, S0_len] <;> omega) | rfl))) rfl rfl rfl ?_
          refine qt (ev_add rfl rfl) rfl rfl rfl ?_
          refine qt_end ?_
          refine st (ev_indexAddr_arr Try.underlying168 ty167 rfl rfl (by omega) (by omega)) rfl rfl rfl ?_
          refine st_store1 3 ty167 rfl rfl rfl rfl (by first | omega | (simp only [List.length_append, List.length_cons, List.length_nil, List.length_set, List.length_replicate, List.length_take, List.length_drop, ints_length, wr_length, comp_len, absorb_len, S0_len] <;> omega) | rfl) rfl ?_
          refine at_heq (i := 3) rfl (by rw [ints_set]) ?_
          refine op_nil ?_
          refine ax_block ?_
          refine ax_then ?_
          refine At.regs (L' := [(3, _), (6, _), (12, _), (18, _), (182, _), (183, _), (186, _), (187, _), (188, _), (189, _), (190, _), (191, _), (192, _), (193, _), (194, _)]) (.cons rfl (.cons rfl (.cons rfl (.cons rfl (.cons rfl (.cons rfl (.cons rfl (.cons rfl (.cons rfl (.cons rfl (.cons rfl (.cons rfl (.cons rfl (.cons rfl (.cons rfl (.nil _)))))))))))))))) ?_
          refine cd_region ?_
          refine st (ev_move rfl) rfl rfl rfl ?_
          refine st (ev_add64 rfl rfl (by omega) (by omega)) rfl rfl rfl ?_
          refine st (ev_assign rfl) rfl rfl rfl ?_
          refine op_nil ?_
          have e0 : 0 + (i : Int).toNat * 1 = i := by omega
          refine ax_heq (i := 3) (v' := .blk b3 (.cells (ints .u32 (adds s (rnds k (sched b) s 64) (i + 1))).toArray 168)) rfl (by simp only [e0]; rfl) ?_
          exact at_again (i + 1) (by omega) (by omega) (.cons rfl (.cons rfl (.cons rfl (.cons rfl (.nil _))))) (.cons rfl (.cons rfl (.cons rfl (.nil _)))) (.cons rfl (.cons rfl (.nil _)))
        ·
          obtain rfl : i = 8 := by omega
          have hco := comp_len k s b
          refine cd_exit ?_
          refine ax_then_exit ?_
          refine ax_then_exit ?_
          refine ax_block_hit ?_
          refine ax_then ?_
          refine At.regs (L' := [(3, _), (6, _)]) (.cons rfl (.cons rfl (.nil _))) ?_
          refine cd_seq ?_
          refine at_heq (i := 3) (v' := .blk b3 (.cells (ints .u32 (comp k s b)).toArray 168)) rfl rfl ?_
          refine cd_region ?_
          refine st (ld_blk_all (h := 3) ty168 rfl rfl rfl (by first | omega | (simp only [List.length_append, List.length_cons, List.length_nil, List.length_set, List.length_replicate, List.length_take, List.length_drop, ints_length, wr_length, comp_len, absorb_len, S0_len] <;> omega) | rfl)) rfl rfl rfl ?_
          refine st_store_all 6 ty168 rfl rfl rfl rfl (by first | omega | (simp only [List.length_append, List.length_cons, List.length_nil, List.length_set, List.length_replicate, List.length_take, List.length_drop, ints_length, wr_length, comp_len, absorb_len, S0_len] <;> omega) | rfl) (ints_one _ _) (by first | omega | (simp only [List.length_append, List.length_cons, List.length_nil, List.length_set, List.length_replicate, List.length_take, List.length_drop, ints_length, wr_length, comp_len, absorb_len, S0_len] <;> omega) | rfl) rfl ?_
          refine op_nil ?_
          refine ax_then ?_
          refine At.regs (L' := [(6, _)]) (.cons rfl (.nil _)) ?_
          refine cd_ret ?_
          refine rt_cell (h0 := 6) (.inl rfl) Try.results124 ty168 rfl rfl rfl (by first | omega | (simp only [List.length_append, List.length_cons, List.length_nil, List.length_set, List.length_replicate, List.length_take, List.length_drop, ints_length, wr_length, comp_len, absorb_len, S0_len] <;> omega) | rfl) ?_
          exact fun w1 sw => ⟨rfl, sw.gives (.nil _)⟩
set_option maxRecDepth 20000 in
set_option maxHeartbeats 4000000 in
theorem rsum_any (p : Value) (b : List Int) (w : World) (hl : b.length ≤ 140737488352000) (h : Rd w p 1 (ints .u8 b)) : Calls Try.prog 98 #[p] w (PostV w (.agg (ints .u8 (sha b)).toArray)) := by
  refine calls_at (vs := [p]) (X := []) (H := []) (F := [(0, .sl p 1 (ints .u8 b))]) 73 Try.func98 rfl rfl rfl (Sat.rd0 0 h) ?_
  refine cd_seq ?_
  refine cd_region ?_
  refine st_alloc (h := 2) ty55 rfl rfl rfl (fun b2 => ?_)
  refine op_nil ?_
  refine ax_then ?_
  refine At.regs (L' := [(0, _), (2, _)]) (.cons rfl (.cons rfl (.nil _))) ?_
  refine cd_seq ?_
  refine cd_region ?_
  refine st_bsi (h := 11) (xs := []) Try.underlying28 ty5 (by decide) rfl rfl (by decide) rfl rfl (fun b11 => ?_)
  refine st (ev_move rfl) rfl rfl rfl ?_
  refine st_appendi (h := 11) Try.underlying28 Try.underlying28 ty5 rfl rfl rfl rfl (fun w1 sw => sw.sl_rd (h := 0) rfl) (by first | omega | (simp only [List.length_append, List.length_cons, List.length_nil, List.length_set, List.length_replicate, List.length_take, List.length_drop, ints_length, wr_length, comp_len, absorb_len, S0_len] <;> omega)) (by decide) rfl rfl (fun v13 => ?_)
  refine st_bsi (h := 14) (xs := [_]) Try.underlying28 ty5 (by decide) rfl rfl (by decide) rfl rfl (fun b14 => ?_)
  refine st_appendi (h := 11) Try.underlying28 Try.underlying28 ty5 rfl rfl rfl rfl (fun w1 sw => sw.own_rd (h := 14) rfl) (by first | omega | (simp only [List.length_append, List.length_cons, List.length_nil, List.length_set, List.length_replicate, List.length_take, List.length_drop, ints_length, wr_length, comp_len, absorb_len, S0_len] <;> omega)) (by decide) rfl rfl (fun v15 => ?_)
  refine st (ev_assign rfl) rfl rfl rfl ?_
  refine op_nil ?_
  refine ax_then ?_
  refine At.regs (L' := [(0, _), (2, _), (3, _)]) (.cons rfl (.cons rfl (.cons rfl (.nil _)))) ?_
  refine cd_seq ?_
  refine cd_block ?_
  refine at_heq (i := 11) (v' := .own (v15) 5 1 (ints .u8 (b ++ [128] ++ List.replicate 0 0))) rfl (by simp) ?_
  refine cd_loop (ι := Nat × Value) (fun x => x.1 ≤ zs b.length) (fun x => 64 - x.1)
      (fun x => [(0, p), (2, .pointer (some ⟨b2, 0, none⟩)), (3, x.2)])
      (fun x => [(2, .blk b2 (.cells (ints .u8 (List.replicate 32 0)).toArray 55)), (11, .own (x.2) 5 1 (ints .u8 (b ++ [128] ++ List.replicate x.1 0)))])
      (fun x => [(0, .sl p 1 (ints .u8 b))])
      (0, v15) (Nat.zero_le _) (.cons rfl (.cons rfl (.cons rfl (.nil _)))) (.cons rfl (.cons rfl (.nil _))) (.cons rfl (.nil _)) (fun x hi => ?_)
  have hzs : zs b.length < 64 := by unfold zs; omega
  have hz56 : (b.length + 1 + zs b.length) % 64 = 56 := by unfold zs; omega
  refine cd_seq ?_
  refine cd_seq ?_
  refine cd_region ?_
  refine st (ev_move rfl) rfl rfl rfl ?_
  refine st (ev_len_owni (h := 11) Try.underlying28 rfl rfl) rfl rfl rfl ?_
  refine st (ev_rem64 rfl rfl (by omega) (by omega)) rfl rfl rfl ?_
  refine st (ev_neq rfl rfl) rfl rfl rfl ?_
  refine op_nil ?_
  refine ax_then ?_
  refine At.regs (L' := [(0, _), (2, _), (3, _), (16, _), (17, _), (18, _), (19, _)]) (.cons rfl (.cons rfl (.cons rfl (.cons rfl (.cons rfl (.cons rfl (.cons rfl (.nil _)))))))) ?_
  refine cd_if rfl (fun hc19 => ?_) (fun hc19 => ?_)
  ·
    refine cd_skip ?_
    refine ax_then ?_
    refine At.regs (L' := [(0, _), (2, _), (3, _), (16, _), (17, _), (18, _), (19, _)]) (.cons rfl (.cons rfl (.cons rfl (.cons rfl (.cons rfl (.cons rfl (.cons rfl (.nil _)))))))) ?_
    refine cd_block ?_
    refine cd_region ?_
    refine st (ev_move rfl) rfl rfl rfl ?_
    refine st_bsi (h := 21) (xs := [_]) Try.underlying28 ty5 (by decide) rfl rfl (by decide) rfl rfl (fun b21 => ?_)
    refine st_appendi (h := 11) Try.underlying28 Try.underlying28 ty5 rfl rfl rfl rfl (fun w1 sw => sw.own_rd (h := 21) rfl) (by first | omega | (simp only [List.length_append, List.length_cons, List.length_nil, List.length_set, List.length_replicate, List.length_take, List.length_drop, ints_length, wr_length, comp_len, absorb_len, S0_len] <;> omega)) (by decide) rfl rfl (fun v22 => ?_)
    refine st (ev_assign rfl) rfl rfl rfl ?_
    refine op_nil ?_
    refine ax_block ?_
    refine ax_heq (i := 11) (v' := .own (v22) 5 1 (ints .u8 (b ++ [128] ++ List.replicate (x.1 + 1) 0))) rfl (by rw [List.append_assoc, ← List.replicate_succ']) ?_
    exact at_again ((x.1 + 1, v22)) (by simp only [List.length_append, List.length_replicate, List.length_cons, List.length_nil] at hc19; show x.1 + 1 ≤ _; omega) (by omega) (.cons rfl (.cons rfl (.cons rfl (.nil _)))) (.cons rfl (.cons rfl (.nil _))) (.cons rfl (.nil _))
  ·
    obtain ⟨z, v⟩ := x
    simp only [List.length_append, List.length_replicate, List.length_cons, List.length_nil] at hi hc19
    obtain rfl : z = zs b.length := by omega
    dsimp only
    refine cd_exit ?_
    refine ax_then_exit ?_
    refine ax_then_exit ?_
    refine ax_block_hit ?_
    refine ax_then ?_
    refine At.regs (L' := [(0, _), (2, _), (3, _)]) (.cons rfl (.cons rfl (.cons rfl (.nil _)))) ?_
    refine cd_seq ?_
    refine cd_region ?_
    refine st (ev_move rfl) rfl rfl rfl ?_
    refine st (ev_len_rdi (h := 0) Try.underlying28 rfl rfl) rfl rfl rfl ?_
    refine st (ev_convu64 Try.underlying3 Try.underlying135 rfl (by omega) (by omega)) rfl rfl rfl ?_
    refine st (ev_mul rfl rfl) rfl rfl rfl ?_
    refine at_eq (i := 26) (v' := .int .u64 (8 * (b.length : Int))) rfl (by rw [mul8 _ hl]) ?_
    refine st (ev_assign rfl) rfl rfl rfl ?_
    refine op_nil ?_
    refine ax_then ?_
    refine At.regs (L' := [(2, _), (3, _), (4, _)]) (.cons rfl (.cons rfl (.cons rfl (.nil _)))) ?_
    refine cd_seq ?_
    refine cd_seq ?_
    refine cd_region ?_
    refine st (ev_assign rfl) rfl rfl rfl ?_
    refine op_nil ?_
    refine ax_then ?_
    refine At.regs (L' := [(2, _), (3, _), (4, _), (5, _)]) (.cons rfl (.cons rfl (.cons rfl (.cons rfl (.nil _))))) ?_
    refine cd_block ?_
    refine at_heq (i := 11) (v' := .own (v) 5 1 (ints .u8 (b ++ [128] ++ List.replicate (zs b.length) 0 ++ bes (8 * (b.length : Int)) 0))) rfl (by simp [bes]) ?_
    refine at_eq (i := 5) (v' := .int .i64 (7 - ((0 : Nat) : Int))) rfl rfl ?_
    refine cd_loop (ι := Nat × Value) (fun x => x.1 ≤ 8) (fun x => 8 - x.1)
        (fun x => [(2, .pointer (some ⟨b2, 0, none⟩)), (3, x.2), (4, .int .u64 (8 * (b.length : Int))), (5, .int .i64 (7 - (x.1 : Int)))])
        (fun x => [(2, .blk b2 (.cells (ints .u8 (List.replicate 32 0)).toArray 55)), (11, .own (x.2) 5 1 (ints .u8 (b ++ [128] ++ List.replicate (zs b.length) 0 ++ bes (8 * (b.length : Int)) x.1)))])
        (fun x => [])
        (0, v) (by omega) (.cons rfl (.cons rfl (.cons rfl (.cons rfl (.nil _))))) (.cons rfl (.cons rfl (.nil _))) (.nil _) (fun x hi => ?_)
    have hbe := bes_len (8 * (b.length : Int)) x.1
    refine cd_seq ?_
    refine cd_seq ?_
    refine cd_region ?_
    refine st (ev_move rfl) rfl rfl rfl ?_
    refine st (ev_geq rfl rfl) rfl rfl rfl ?_
    refine op_nil ?_
    refine ax_then ?_
    refine At.regs (L' := [(2, _), (3, _), (4, _), (5, _), (27, _), (28, _)]) (.cons rfl (.cons rfl (.cons rfl (.cons rfl (.cons rfl (.cons rfl (.nil _))))))) ?_
    refine cd_if rfl (fun hc28 => ?_) (fun hc28 => ?_)
    ·
      refine cd_skip ?_
      refine ax_then ?_
      refine At.regs (L' := [(2, _), (3, _), (4, _), (5, _), (27, _), (28, _)]) (.cons rfl (.cons rfl (.cons rfl (.cons rfl (.cons rfl (.cons rfl (.nil _))))))) ?_
      refine cd_seq ?_
      refine cd_block ?_
      refine cd_region ?_
      refine st (ev_move rfl) rfl rfl rfl ?_
      refine st (ev_move rfl) rfl rfl rfl ?_
      refine st (ev_move rfl) rfl rfl rfl ?_
      refine st (ev_mul64 rfl rfl (by omega) (by omega)) rfl rfl rfl ?_
      refine st (ev_convu64 Try.underlying3 Try.underlying136 rfl (by omega) (by omega)) rfl rfl rfl ?_
      refine st (ev_shr rfl rfl (by omega)) rfl rfl rfl ?_
      refine st (ev_conv Try.underlying135 Try.underlying5 rfl) rfl rfl rfl ?_
      refine st_bsi (h := 38) (xs := [_]) Try.underlying28 ty5 (by decide) rfl rfl (by decide) rfl rfl (fun b38 => ?_)
      refine st_appendi (h := 11) Try.underlying28 Try.underlying28 ty5 rfl rfl rfl rfl (fun w1 sw => sw.own_rd (h := 38) rfl) (by first | omega | (simp only [List.length_append, List.length_cons, List.length_nil, List.length_set, List.length_replicate, List.length_take, List.length_drop, ints_length, wr_length, comp_len, absorb_len, S0_len] <;> omega)) (by decide) rfl rfl (fun v39 => ?_)
      refine st (ev_assign rfl) rfl rfl rfl ?_
      refine op_nil ?_
      refine ax_block ?_
      refine ax_then ?_
      refine At.regs (L' := [(2, _), (3, _), (4, _), (5, _), (27, _), (28, _), (31, _), (32, _), (33, _), (34, _), (35, _), (36, _), (37, _), (38, _), (39, _)]) (.cons rfl (.cons rfl (.cons rfl (.cons rfl (.cons rfl (.cons rfl (.cons rfl (.cons rfl (.cons rfl (.cons rfl (.cons rfl (.cons rfl (.cons rfl (.cons rfl (.cons rfl (.nil _)))))))))))))))) ?_
      refine cd_region ?_
      refine st (ev_move rfl) rfl rfl rfl ?_
      refine st (ev_sub64 rfl rfl (by omega) (by omega)) rfl rfl rfl ?_
      refine st (ev_assign rfl) rfl rfl rfl ?_
      refine op_nil ?_
      have e0 : 8 * (7 - (x.1 : Int)) = 8 * ((7 - x.1 : Nat) : Int) := by omega
      refine ax_heq (i := 11) (v' := .own (v39) 5 1 (ints .u8 (b ++ [128] ++ List.replicate (zs b.length) 0 ++ bes (8 * (b.length : Int)) (x.1 + 1)))) rfl (by simp only [e0, List.append_assoc]; rfl) ?_
      refine ax_eq (i := 5) (v' := .int .i64 (7 - ((x.1 + 1 : Nat) : Int))) rfl (by congr 1; omega) ?_
      exact at_again ((x.1 + 1, v39)) (by show x.1 + 1 ≤ 8; omega) (by omega) (.cons rfl (.cons rfl (.cons rfl (.cons rfl (.nil _))))) (.cons rfl (.cons rfl (.nil _))) (.nil _)
    ·
      obtain ⟨j, v⟩ := x
      dsimp only at hi hc28 ⊢
      obtain rfl : j = 8 := by omega
      have hpl := pad_len b
      have hpd := pad_len64 b
      have hzs : zs b.length < 64 := by unfold zs; omega
      refine at_heq (i := 11) (v' := .own (v) 5 1 (ints .u8 (pad b))) rfl rfl ?_
      refine cd_exit ?_
      refine ax_then_exit ?_
      refine ax_then_exit ?_
      refine ax_block_hit ?_
      refine ax_then ?_
      refine At.regs (L' := [(2, _), (3, _)]) (.cons rfl (.cons rfl (.nil _))) ?_
      refine cd_seq ?_
      refine cd_region ?_
      refine st (ev_build_ints (xs := [_, _, _, _, _, _, _, _]) (zs := List.replicate 8 0) ty168 rfl ty167 rfl rfl rfl rfl rfl) rfl rfl rfl ?_
      refine st_alloc (h := 6) ty168 rfl rfl rfl (fun b6 => ?_)
      refine st_store_all 6 ty168 rfl rfl rfl rfl (by first | omega | (simp only [List.length_append, List.length_cons, List.length_nil, List.length_set, List.length_replicate, List.length_take, List.length_drop, ints_length, wr_length, comp_len, absorb_len, S0_len] <;> omega) | rfl) (ints_one _ _) (by first | omega | (simp only [List.length_append, List.length_cons, List.length_nil, List.length_set, List.length_replicate, List.length_take, List.length_drop, ints_length, wr_length, comp_len, absorb_len, S0_len] <;> omega) | rfl) rfl ?_
      refine op_nil ?_
      refine ax_then ?_
      refine At.regs (L' := [(2, _), (3, _), (6, _)]) (.cons rfl (.cons rfl (.cons rfl (.nil _)))) ?_
      refine cd_seq ?_
      refine cd_region ?_
      refine st_callv has123 rfl (fun w1 sw => rk_any w1) rfl rfl ?_
      refine st_alloc (h := 7) ty169 rfl rfl rfl (fun b7 => ?_)
      refine st_store_all 7 ty169 rfl rfl rfl rfl (by first | omega | (simp only [List.length_append, List.length_cons, List.length_nil, List.length_set, List.length_replicate, List.length_take, List.length_drop, ints_length, wr_length, comp_len, absorb_len, S0_len] <;> omega) | rfl) (ints_one _ _) (by first | omega | (simp only [List.length_append, List.length_cons, List.length_nil, List.length_set, List.length_replicate, List.length_take, List.length_drop, ints_length, wr_length, comp_len, absorb_len, S0_len] <;> omega) | rfl) rfl ?_
      refine op_nil ?_
      refine ax_then ?_
      refine At.regs (L' := [(2, _), (3, _), (6, _), (7, _)]) (.cons rfl (.cons rfl (.cons rfl (.cons rfl (.nil _))))) ?_
      refine cd_seq ?_
      refine cd_seq ?_
      refine cd_region ?_
      refine st (ev_assign rfl) rfl rfl rfl ?_
      refine op_nil ?_
      refine ax_then ?_
      refine At.regs (L' := [(2, _), (3, _), (6, _), (7, _), (8, _)]) (.cons rfl (.cons rfl (.cons rfl (.cons rfl (.cons rfl (.nil _)))))) ?_
      refine cd_block ?_
      refine cd_loop (ι := Nat) (fun m => 64 * m ≤ (pad b).length) (fun m => (pad b).length - m)
          (fun m => [(2, .pointer (some ⟨b2, 0, none⟩)), (3, v), (6, .pointer (some ⟨b6, 0, none⟩)), (7, .pointer (some ⟨b7, 0, none⟩)), (8, .int .i64 (64 * (m : Int)))])
          (fun m => [(2, .blk b2 (.cells (ints .u8 (List.replicate 32 0)).toArray 55)), (6, .blk b6 (.cells (ints .u32 (absorb S0 (pad b) m)).toArray 168)), (7, .blk b7 (.cells (ints .u32 (K)).toArray 169)), (11, .own (v) 5 1 (ints .u8 (pad b)))])
          (fun m => [])
          0 (by omega) (.cons rfl (.cons rfl (.cons rfl (.cons rfl (.cons rfl (.nil _)))))) (.cons rfl (.cons rfl (.cons rfl (.cons rfl (.nil _))))) (.nil _) (fun m hi => ?_)
      have hal : (absorb S0 (pad b) m).length = 8 := by rw [absorb_len]; rfl
      refine cd_seq ?_
      refine cd_seq ?_
      refine cd_region ?_
      refine st (ev_move rfl) rfl rfl rfl ?_
      refine st (ev_move rfl) rfl rfl rfl ?_
      refine st (ev_len_owni (h := 11) Try.underlying28 rfl rfl) rfl rfl rfl ?_
      refine st (ev_lss rfl rfl) rfl rfl rfl ?_
      refine op_nil ?_
      refine ax_then ?_
      refine At.regs (L' := [(2, _), (3, _), (6, _), (7, _), (8, _), (42, _), (43, _), (44, _), (45, _)]) (.cons rfl (.cons rfl (.cons rfl (.cons rfl (.cons rfl (.cons rfl (.cons rfl (.cons rfl (.cons rfl (.nil _)))))))))) ?_
      refine cd_if rfl (fun hc45 => ?_) (fun hc45 => ?_)
      ·
        refine cd_skip ?_
        refine ax_then ?_
        refine At.regs (L' := [(2, _), (3, _), (6, _), (7, _), (8, _), (42, _), (43, _), (44, _), (45, _)]) (.cons rfl (.cons rfl (.cons rfl (.cons rfl (.cons rfl (.cons rfl (.cons rfl (.cons rfl (.cons rfl (.nil _)))))))))) ?_
        refine cd_seq ?_
        refine cd_block ?_
        refine cd_open_tail 7 hmix (by decide +kernel) ?_
        refine qt (ld_blk_all (h := 6) ty168 rfl rfl rfl (by first | omega | (simp only [List.length_append, List.length_cons, List.length_nil, List.length_set, List.length_replicate, List.length_take, List.length_drop, ints_length, wr_length, comp_len, absorb_len, S0_len] <;> omega) | rfl)) rfl rfl rfl ?_
        refine qt (ev_move rfl) rfl rfl rfl ?_
        refine qt (ev_move rfl) rfl rfl rfl ?_
        refine qt (ev_move rfl) rfl rfl rfl ?_
        refine qt (ev_add64 rfl rfl (by omega) (by omega)) rfl rfl rfl ?_
        refine qt (ev_slicei Try.underlying28 ty5 rfl rfl rfl (fun w1 sw => sw.own_rd (h := 11) rfl) (by omega) (by omega) (by first | omega | (simp only [List.length_append, List.length_cons, List.length_nil, List.length_set, List.length_replicate, List.length_take, List.length_drop, ints_length, wr_length, comp_len, absorb_len, S0_len] <;> omega))) rfl rfl rfl ?_
        refine qt_callv has124 rfl (fun w1 sw => block_any b7 _ _ _ K w1 hal rfl (by simp only [List.length_take, List.length_drop]; omega) ((sw.own_rd (h := 11) rfl).cuti (by omega) (by omega)) (lies_blk (sw.blk_eq (h := 7) rfl))) rfl rfl ?_
        refine qt_end ?_
        refine st_store_all 6 ty168 rfl rfl rfl rfl (by first | omega | (simp only [List.length_append, List.length_cons, List.length_nil, List.length_set, List.length_replicate, List.length_take, List.length_drop, ints_length, wr_length, comp_len, absorb_len, S0_len] <;> omega) | rfl) (ints_one _ _) (by first | omega | (simp only [List.length_append, List.length_cons, List.length_nil, List.length_set, List.length_replicate, List.length_take, List.length_drop, ints_length, wr_length, comp_len, absorb_len, S0_len] <;> omega) | rfl) rfl ?_
        refine op_nil ?_
        refine ax_block ?_
        refine ax_then ?_
        refine At.regs (L' := [(2, _), (3, _), (6, _), (7, _), (8, _), (42, _), (43, _), (44, _), (45, _), (48, _), (49, _), (50, _), (51, _), (52, _), (53, _), (54, _)]) (.cons rfl (.cons rfl (.cons rfl (.cons rfl (.cons rfl (.cons rfl (.cons rfl (.cons rfl (.cons rfl (.cons rfl (.cons rfl (.cons rfl (.cons rfl (.cons rfl (.cons rfl (.cons rfl (.nil _))))))))))))))))) ?_
        refine cd_region ?_
        refine st (ev_move rfl) rfl rfl rfl ?_
        refine st (ev_add64 rfl rfl (by omega) (by omega)) rfl rfl rfl ?_
        refine st (ev_assign rfl) rfl rfl rfl ?_
        refine op_nil ?_
        have e0 : (64 * (m : Int)).toNat = 64 * m := by omega
        refine ax_heq (i := 6) (v' := .blk b6 (.cells (ints .u32 (absorb S0 (pad b) (m + 1))).toArray 168)) rfl (by simp only [e0]; rw [comp_take _ _ _ _ (by omega)]; rfl) ?_
        exact at_again (m + 1) (by omega) (by omega) (.cons rfl (.cons rfl (.cons rfl (.cons rfl (.cons rfl (.nil _)))))) (.cons rfl (.cons rfl (.cons rfl (.cons rfl (.nil _))))) (.nil _)
      ·
        obtain rfl : m = (pad b).length / 64 := by omega
        refine cd_exit ?_
        refine ax_then_exit ?_
        refine ax_then_exit ?_
        refine ax_block_hit ?_
        refine ax_then ?_
        refine At.regs (L' := [(2, _), (6, _)]) (.cons rfl (.cons rfl (.nil _))) ?_
        refine cd_seq ?_
        refine at_heq (i := 6) (v' := .blk b6 (.cells (ints .u32 (fs b)).toArray 168)) rfl rfl ?_
        refine cd_region ?_
        refine st_alloc (h := 9) ty55 rfl rfl rfl (fun b9 => ?_)
        refine op_nil ?_
        refine ax_then ?_
        refine At.regs (L' := [(2, _), (6, _), (9, _)]) (.cons rfl (.cons rfl (.cons rfl (.nil _)))) ?_
        refine cd_seq ?_
        refine cd_seq ?_
        refine cd_region ?_
        refine st (ev_assign rfl) rfl rfl rfl ?_
        refine op_nil ?_
        refine ax_then ?_
        refine At.regs (L' := [(2, _), (6, _), (9, _), (10, _)]) (.cons rfl (.cons rfl (.cons rfl (.cons rfl (.nil _))))) ?_
        refine cd_block ?_
        refine cd_loop (ι := Nat) (fun i => i ≤ 32) (fun i => 32 - i)
            (fun i => [(2, .pointer (some ⟨b2, 0, none⟩)), (6, .pointer (some ⟨b6, 0, none⟩)), (9, .pointer (some ⟨b9, 0, none⟩)), (10, .int .i64 (i : Int))])
            (fun i => [(2, .blk b2 (.cells (ints .u8 (List.replicate 32 0)).toArray 55)), (6, .blk b6 (.cells (ints .u32 (fs b)).toArray 168)), (9, .blk b9 (.cells (ints .u8 (outr (fs b) i)).toArray 55))])
            (fun i => [])
            0 (by omega) (.cons rfl (.cons rfl (.cons rfl (.cons rfl (.nil _))))) (.cons rfl (.cons rfl (.cons rfl (.nil _)))) (.nil _) (fun i hi => ?_)
        have hfl := fs_len b
        have hol := outr_len (fs b) i
        refine cd_seq ?_
        refine cd_seq ?_
        refine cd_region ?_
        refine st (ev_move rfl) rfl rfl rfl ?_
        refine st (ev_lss rfl rfl) rfl rfl rfl ?_
        refine op_nil ?_
        refine ax_then ?_
        refine At.regs (L' := [(2, _), (6, _), (9, _), (10, _), (55, _), (56, _)]) (.cons rfl (.cons rfl (.cons rfl (.cons rfl (.cons rfl (.cons rfl (.nil _))))))) ?_
        refine cd_if rfl (fun hc56 => ?_) (fun hc56 => ?_)
        ·
          refine cd_skip ?_
          refine ax_then ?_
          refine At.regs (L' := [(2, _), (6, _), (9, _), (10, _), (55, _), (56, _)]) (.cons rfl (.cons rfl (.cons rfl (.cons rfl (.cons rfl (.cons rfl (.nil _))))))) ?_
          refine cd_seq ?_
          refine cd_block ?_
          refine cd_region ?_
          refine st (ev_move rfl) rfl rfl rfl ?_
          refine st (ev_move rfl) rfl rfl rfl ?_
          refine st (ev_quo64 rfl rfl (by omega) (by omega) (by omega)) rfl rfl rfl ?_
          refine st (ev_indexAddr_arr Try.underlying168 ty167 rfl rfl (by omega) (by omega)) rfl rfl rfl ?_
          refine st (ld_blk1 (h := 6) ty167 rfl rfl rfl (ints_get _ _ _ (by first | omega | (simp only [List.length_append, List.length_cons, List.length_nil, List.length_set, List.length_replicate, List.length_take, List.length_drop, ints_length, wr_length, comp_len, absorb_len, S0_len] <;> omega) | rfl))) rfl rfl rfl ?_
          refine st (ev_move rfl) rfl rfl rfl ?_
          refine st (ev_rem64 rfl rfl (by omega) (by omega)) rfl rfl rfl ?_
          refine st (ev_mul64 rfl rfl (by omega) (by omega)) rfl rfl rfl ?_
          refine st (ev_sub64 rfl rfl (by omega) (by omega)) rfl rfl rfl ?_
          refine st (ev_convu64 Try.underlying3 Try.underlying136 rfl (by omega) (by omega)) rfl rfl rfl ?_
          refine st (ev_shr rfl rfl (by omega)) rfl rfl rfl ?_
          refine st (ev_conv Try.underlying167 Try.underlying5 rfl) rfl rfl rfl ?_
          refine st (ev_indexAddr_arr Try.underlying55 ty5 rfl rfl (by omega) (by omega)) rfl rfl rfl ?_
          refine st_store1 9 ty5 rfl rfl rfl rfl (by first | omega | (simp only [List.length_append, List.length_cons, List.length_nil, List.length_set, List.length_replicate, List.length_take, List.length_drop, ints_length, wr_length, comp_len, absorb_len, S0_len] <;> omega) | rfl) rfl ?_
          refine at_heq (i := 9) rfl (by rw [ints_set]) ?_
          refine op_nil ?_
          refine ax_block ?_
          refine ax_then ?_
          refine At.regs (L' := [(2, _), (6, _), (9, _), (10, _), (55, _), (56, _), (59, _), (60, _), (61, _), (62, _), (63, _), (64, _), (65, _), (66, _), (67, _), (68, _), (69, _), (70, _), (71, _)]) (.cons rfl (.cons rfl (.cons rfl (.cons rfl (.cons rfl (.cons rfl (.cons rfl (.cons rfl (.cons rfl (.cons rfl (.cons rfl (.cons rfl (.cons rfl (.cons rfl (.cons rfl (.cons rfl (.cons rfl (.cons rfl (.cons rfl (.nil _)))))))))))))))))))) ?_
          refine cd_region ?_
          refine st (ev_move rfl) rfl rfl rfl ?_
          refine st (ev_add64 rfl rfl (by omega) (by omega)) rfl rfl rfl ?_
          refine st (ev_assign rfl) rfl rfl rfl ?_
          refine op_nil ?_
          have e0 : 0 + (i : Int).toNat * 1 = i := by omega
          have e1 : 0 + ((i : Int) / 4).toNat * 1 = i / 4 := by omega
          have e2 : (i : Int) % 4 = ((i % 4 : Nat) : Int) := by omega
          refine ax_heq (i := 9) (v' := .blk b9 (.cells (ints .u8 (outr (fs b) (i + 1))).toArray 55)) rfl (by simp only [e0, e1, e2]; rfl) ?_
          exact at_again (i + 1) (by omega) (by omega) (.cons rfl (.cons rfl (.cons rfl (.cons rfl (.nil _))))) (.cons rfl (.cons rfl (.cons rfl (.nil _)))) (.nil _)
        ·
          obtain rfl : i = 32 := by omega
          refine cd_exit ?_
          refine ax_then_exit ?_
          refine ax_then_exit ?_
          refine ax_block_hit ?_
          refine ax_then ?_
          refine At.regs (L' := [(2, _), (9, _)]) (.cons rfl (.cons rfl (.nil _))) ?_
          refine cd_seq ?_
          refine at_heq (i := 9) (v' := .blk b9 (.cells (ints .u8 (sha b)).toArray 55)) rfl (by rw [outr_eq]; rfl) ?_
          have hsl := sha_len b
          refine cd_region ?_
          refine st (ld_blk_all (h := 9) ty55 rfl rfl rfl (by first | omega | (simp only [List.length_append, List.length_cons, List.length_nil, List.length_set, List.length_replicate, List.length_take, List.length_drop, ints_length, wr_length, comp_len, absorb_len, S0_len] <;> omega) | rfl)) rfl rfl rfl ?_
          refine st_store_all 2 ty55 rfl rfl rfl rfl (by first | omega | (simp only [List.length_append, List.length_cons, List.length_nil, List.length_set, List.length_replicate, List.length_take, List.length_drop, ints_length, wr_length, comp_len, absorb_len, S0_len] <;> omega) | rfl) (ints_one _ _) (by first | omega | (simp only [List.length_append, List.length_cons, List.length_nil, List.length_set, List.length_replicate, List.length_take, List.length_drop, ints_length, wr_length, comp_len, absorb_len, S0_len] <;> omega) | rfl) rfl ?_
          refine op_nil ?_
          refine ax_then ?_
          refine At.regs (L' := [(2, _)]) (.cons rfl (.nil _)) ?_
          refine cd_ret ?_
          refine rt_cell (h0 := 2) (.inl rfl) Try.results98 ty55 rfl rfl rfl (by first | omega | (simp only [List.length_append, List.length_cons, List.length_nil, List.length_set, List.length_replicate, List.length_take, List.length_drop, ints_length, wr_length, comp_len, absorb_len, S0_len] <;> omega) | rfl) ?_
          exact fun w1 sw => ⟨rfl, sw.gives (.nil _)⟩
end Go.Proofs.Ytgfnmolbagilmaa

namespace Go.Proofs.Ytgfnmolbagilmaa
open Go Go.RowKit Fw
open Sha
open Ots
set_option linter.unusedVariables false
set_option linter.unusedSimpArgs false
set_option maxRecDepth 20000 in
set_option maxHeartbeats 1000000 in
theorem walk_any (h0 : List Int) (c f t : Int) (w : World) (hl : h0.length = 32) (hf : f ≤ 9223372036854775807) : Calls Try.prog 111 #[.agg (ints .u8 (h0)).toArray, .int .i64 c, .int .i64 f, .int .i64 t] w (PostV w (.agg (ints .u8 (walk h0 c f t)).toArray)) := by
  refine calls_at (vs := [.agg (ints .u8 (h0)).toArray, .int .i64 c, .int .i64 f, .int .i64 t]) (X := []) (H := []) (F := []) 27 Try.func111 rfl rfl rfl (Sat.start0 w) ?_
  refine cd_seq ?_
  refine cd_region ?_
  refine st_box (h := 4) rfl rfl rfl rfl (fun b4 => ?_)
  refine st_alloc (h := 8) ty55 rfl rfl rfl (fun b8 => ?_)
  refine op_nil ?_
  refine ax_then ?_
  refine At.regs (L' := [(1, _), (2, _), (3, _), (4, _), (8, _)]) (.cons rfl (.cons rfl (.cons rfl (.cons rfl (.cons rfl (.nil _)))))) ?_
  refine cd_seq ?_
  refine cd_seq ?_
  refine cd_region ?_
  refine st (ev_move rfl) rfl rfl rfl ?_
  refine st (ev_max2 rfl rfl) rfl rfl rfl ?_
  obtain ⟨a, ha⟩ : ∃ a : Nat, max f 0 = (a : Int) := ⟨(max f 0).toNat, (Int.toNat_of_nonneg (by omega)).symm⟩
  refine at_eq (i := 11) (v' := .int .i64 ((a + 0 : Nat) : Int)) rfl (by rw [ha]; rfl) ?_
  refine st (ev_assign rfl) rfl rfl rfl ?_
  refine op_nil ?_
  refine ax_then ?_
  refine At.regs (L' := [(1, _), (3, _), (4, _), (8, _), (9, _)]) (.cons rfl (.cons rfl (.cons rfl (.cons rfl (.cons rfl (.nil _)))))) ?_
  refine cd_block ?_
  refine cd_loop (ι := Nat) (fun k => k ≤ (min t 3 - a).toNat) (fun k => (min t 3 - a).toNat - k)
      (fun k => [(1, .int .i64 c), (3, .int .i64 t), (4, .pointer (some ⟨b4, 0, none⟩)), (8, .pointer (some ⟨b8, 0, none⟩)), (9, .int .i64 ((a + k : Nat) : Int))])
      (fun k => [(4, .blk b4 (.cells (ints .u8 (way c h0 a k)).toArray 55)), (8, .blk b8 (.cells (ints .u8 (List.replicate 32 0)).toArray 55))])
      (fun k => [])
      0 (by omega) (.cons rfl (.cons rfl (.cons rfl (.cons rfl (.cons rfl (.nil _)))))) (.cons rfl (.cons rfl (.nil _))) (.nil _) (fun k hi => ?_)
  have hwl := way_len c hl a k
  have hwl1 := way_len c hl a (k + 1)
  refine cd_seq ?_
  refine cd_seq ?_
  refine cd_region ?_
  refine st (ev_move rfl) rfl rfl rfl ?_
  refine st (ev_move rfl) rfl rfl rfl ?_
  refine st (ev_min2 rfl rfl) rfl rfl rfl ?_
  refine st (ev_lss rfl rfl) rfl rfl rfl ?_
  refine op_nil ?_
  refine ax_then ?_
  refine At.regs (L' := [(1, _), (3, _), (4, _), (8, _), (9, _), (12, _), (13, _), (14, _), (15, _)]) (.cons rfl (.cons rfl (.cons rfl (.cons rfl (.cons rfl (.cons rfl (.cons rfl (.cons rfl (.cons rfl (.nil _)))))))))) ?_
  refine cd_if rfl (fun hc15 => ?_) (fun hc15 => ?_)
  ·
    refine cd_skip ?_
    refine ax_then ?_
    refine At.regs (L' := [(1, _), (3, _), (4, _), (8, _), (9, _), (12, _), (13, _), (14, _), (15, _)]) (.cons rfl (.cons rfl (.cons rfl (.cons rfl (.cons rfl (.cons rfl (.cons rfl (.cons rfl (.cons rfl (.nil _)))))))))) ?_
    refine cd_seq ?_
    refine cd_block ?_
    refine cd_region ?_
    refine st (ev_move rfl) rfl rfl rfl ?_
    refine st (ev_conv Try.underlying3 Try.underlying5 rfl) rfl rfl rfl ?_
    refine st (ev_move rfl) rfl rfl rfl ?_
    refine st (ev_conv Try.underlying3 Try.underlying5 rfl) rfl rfl rfl ?_
    refine st_bsi (h := 22) (xs := [_, _, _]) Try.underlying28 ty5 (by decide) rfl rfl (by decide) rfl rfl (fun b22 => ?_)
    refine st (ev_slice_arr_all Try.underlying55 ty5 rfl) rfl rfl rfl ?_
    refine st_appendi (h := 22) Try.underlying28 Try.underlying28 ty5 rfl rfl rfl rfl (fun w1 sw => rd_blk_all sw (h := 4) rfl (by first | omega | (simp only [List.length_append, List.length_cons, List.length_nil, List.length_set, List.length_replicate, List.length_take, List.length_drop, ints_length, wr_length, sha_len, way_len _ (by assumption), secret_len, digits_len] <;> omega) | rfl)) (by first | omega | (simp only [List.length_append, List.length_cons, List.length_nil, List.length_set, List.length_replicate, List.length_take, List.length_drop, ints_length, wr_length, sha_len, way_len _ (by assumption), secret_len, digits_len] <;> omega)) (by decide) rfl rfl (fun v24 => ?_)
    refine st_callv has107 rfl (fun w1 sw => sum_any v24 ([1, IntKind.u8.wrap c, IntKind.u8.wrap ((a + k : Nat) : Int)] ++ way c h0 a k) w1 (by simp only [List.length_append, List.length_cons, List.length_nil, hwl]; omega) (sw.own_rd (h := 22) rfl)) rfl rfl ?_
    refine at_eq (i := 25) (v' := .agg (ints .u8 (way c h0 a (k + 1))).toArray) rfl rfl ?_
    refine st_store_all 4 ty55 rfl rfl rfl rfl (by first | omega | (simp only [List.length_append, List.length_cons, List.length_nil, List.length_set, List.length_replicate, List.length_take, List.length_drop, ints_length, wr_length, sha_len, way_len _ (by assumption), secret_len, digits_len] <;> omega) | rfl) (ints_one _ _) (by first | omega | (simp only [List.length_append, List.length_cons, List.length_nil, List.length_set, List.length_replicate, List.length_take, List.length_drop, ints_length, wr_length, sha_len, way_len _ (by assumption), secret_len, digits_len] <;> omega) | rfl) rfl ?_
    refine op_nil ?_
    refine ax_block ?_
    refine ax_then ?_
    refine At.regs (L' := [(1, _), (3, _), (4, _), (8, _), (9, _), (12, _), (13, _), (14, _), (15, _), (18, _), (19, _), (20, _), (21, _), (22, _), (23, _), (24, _), (25, _)]) (.cons rfl (.cons rfl (.cons rfl (.cons rfl (.cons rfl (.cons rfl (.cons rfl (.cons rfl (.cons rfl (.cons rfl (.cons rfl (.cons rfl (.cons rfl (.cons rfl (.cons rfl (.cons rfl (.cons rfl (.nil _)))))))))))))))))) ?_
    refine cd_region ?_
    refine st (ev_move rfl) rfl rfl rfl ?_
    refine st (ev_add64 rfl rfl (by omega) (by omega)) rfl rfl rfl ?_
    refine st (ev_assign rfl) rfl rfl rfl ?_
    refine op_nil ?_
    refine ax_eq (i := 9) (v' := .int .i64 ((a + (k + 1) : Nat) : Int)) rfl (by congr 1) ?_
    exact at_again (k + 1) (by omega) (by omega) (.cons rfl (.cons rfl (.cons rfl (.cons rfl (.cons rfl (.nil _)))))) (.cons rfl (.cons rfl (.nil _))) (.nil _)
  ·
    obtain rfl : k = (min t 3 - a).toNat := by omega
    have hwk : way c h0 a (min t 3 - a).toNat = walk h0 c f t := by rw [walk, ha]; rfl
    refine at_heq (i := 4) (v' := .blk b4 (.cells (ints .u8 (walk h0 c f t)).toArray 55)) rfl (by rw [hwk]) ?_
    have hwl2 := walk_len c f t hl
    refine cd_exit ?_
    refine ax_then_exit ?_
    refine ax_then_exit ?_
    refine ax_block_hit ?_
    refine ax_then ?_
    refine At.regs (L' := [(4, _), (8, _)]) (.cons rfl (.cons rfl (.nil _))) ?_
    refine cd_seq ?_
    refine cd_region ?_
    refine st (ld_blk_all (h := 4) ty55 rfl rfl rfl (by first | omega | (simp only [List.length_append, List.length_cons, List.length_nil, List.length_set, List.length_replicate, List.length_take, List.length_drop, ints_length, wr_length, sha_len, way_len _ (by assumption), secret_len, digits_len] <;> omega) | rfl)) rfl rfl rfl ?_
    refine st_store_all 8 ty55 rfl rfl rfl rfl (by first | omega | (simp only [List.length_append, List.length_cons, List.length_nil, List.length_set, List.length_replicate, List.length_take, List.length_drop, ints_length, wr_length, sha_len, way_len _ (by assumption), secret_len, digits_len] <;> omega) | rfl) (ints_one _ _) (by first | omega | (simp only [List.length_append, List.length_cons, List.length_nil, List.length_set, List.length_replicate, List.length_take, List.length_drop, ints_length, wr_length, sha_len, way_len _ (by assumption), secret_len, digits_len] <;> omega) | rfl) rfl ?_
    refine op_nil ?_
    refine ax_then ?_
    refine At.regs (L' := [(8, _)]) (.cons rfl (.nil _)) ?_
    refine cd_ret ?_
    refine rt_cell (h0 := 8) (.inl rfl) Try.results111 ty55 rfl rfl rfl (by first | omega | (simp only [List.length_append, List.length_cons, List.length_nil, List.length_set, List.length_replicate, List.length_take, List.length_drop, ints_length, wr_length, sha_len, way_len _ (by assumption), secret_len, digits_len] <;> omega) | rfl) ?_
    exact fun w1 sw => ⟨rfl, sw.gives (.nil _)⟩
set_option maxRecDepth 20000 in
set_option maxHeartbeats 1000000 in
theorem rwalk_any (h0 : List Int) (c f t : Int) (w : World) (hl : h0.length = 32) (hf : f ≤ 9223372036854775807) : Calls Try.prog 95 #[.agg (ints .u8 (h0)).toArray, .int .i64 c, .int .i64 f, .int .i64 t] w (PostV w (.agg (ints .u8 (walk h0 c f t)).toArray)) := by
  refine calls_at (vs := [.agg (ints .u8 (h0)).toArray, .int .i64 c, .int .i64 f, .int .i64 t]) (X := []) (H := []) (F := []) 27 Try.func95 rfl rfl rfl (Sat.start0 w) ?_
  refine cd_seq ?_
  refine cd_region ?_
  refine st_box (h := 4) rfl rfl rfl rfl (fun b4 => ?_)
  refine st_alloc (h := 8) ty55 rfl rfl rfl (fun b8 => ?_)
  refine op_nil ?_
  refine ax_then ?_
  refine At.regs (L' := [(1, _), (2, _), (3, _), (4, _), (8, _)]) (.cons rfl (.cons rfl (.cons rfl (.cons rfl (.cons rfl (.nil _)))))) ?_
  refine cd_seq ?_
  refine cd_seq ?_
  refine cd_region ?_
  refine st (ev_move rfl) rfl rfl rfl ?_
  refine st (ev_max2 rfl rfl) rfl rfl rfl ?_
  obtain ⟨a, ha⟩ : ∃ a : Nat, max f 0 = (a : Int) := ⟨(max f 0).toNat, (Int.toNat_of_nonneg (by omega)).symm⟩
  refine at_eq (i := 11) (v' := .int .i64 ((a + 0 : Nat) : Int)) rfl (by rw [ha]; rfl) ?_
  refine st (ev_assign rfl) rfl rfl rfl ?_
  refine op_nil ?_
  refine ax_then ?_
  refine At.regs (L' := [(1, _), (3, _), (4, _), (8, _), (9, _)]) (.cons rfl (.cons rfl (.cons rfl (.cons rfl (.cons rfl (.nil _)))))) ?_
  refine cd_block ?_
  refine cd_loop (ι := Nat) (fun k => k ≤ (min t 3 - a).toNat) (fun k => (min t 3 - a).toNat - k)
      (fun k => [(1, .int .i64 c), (3, .int .i64 t), (4, .pointer (some ⟨b4, 0, none⟩)), (8, .pointer (some ⟨b8, 0, none⟩)), (9, .int .i64 ((a + k : Nat) : Int))])
      (fun k => [(4, .blk b4 (.cells (ints .u8 (way c h0 a k)).toArray 55)), (8, .blk b8 (.cells (ints .u8 (List.replicate 32 0)).toArray 55))])
      (fun k => [])
      0 (by omega) (.cons rfl (.cons rfl (.cons rfl (.cons rfl (.cons rfl (.nil _)))))) (.cons rfl (.cons rfl (.nil _))) (.nil _) (fun k hi => ?_)
  have hwl := way_len c hl a k
  have hwl1 := way_len c hl a (k + 1)
  refine cd_seq ?_
  refine cd_seq ?_
  refine cd_region ?_
  refine st (ev_move rfl) rfl rfl rfl ?_
  refine st (ev_move rfl) rfl rfl rfl ?_
  refine st (ev_min2 rfl rfl) rfl rfl rfl ?_
  refine st (ev_lss rfl rfl) rfl rfl rfl ?_
  refine op_nil ?_
  refine ax_then ?_
  refine At.regs (L' := [(1, _), (3, _), (4, _), (8, _), (9, _), (12, _), (13, _), (14, _), (15, _)]) (.cons rfl (.cons rfl (.cons rfl (.cons rfl (.cons rfl (.cons rfl (.cons rfl (.cons rfl (.cons rfl (.nil _)))))))))) ?_
  refine cd_if rfl (fun hc15 => ?_) (fun hc15 => ?_)
  ·
    refine cd_skip ?_
    refine ax_then ?_
    refine At.regs (L' := [(1, _), (3, _), (4, _), (8, _), (9, _), (12, _), (13, _), (14, _), (15, _)]) (.cons rfl (.cons rfl (.cons rfl (.cons rfl (.cons rfl (.cons rfl (.cons rfl (.cons rfl (.cons rfl (.nil _)))))))))) ?_
    refine cd_seq ?_
    refine cd_block ?_
    refine cd_region ?_
    refine st (ev_move rfl) rfl rfl rfl ?_
    refine st (ev_conv Try.underlying3 Try.underlying5 rfl) rfl rfl rfl ?_
    refine st (ev_move rfl) rfl rfl rfl ?_
    refine st (ev_conv Try.underlying3 Try.underlying5 rfl) rfl rfl rfl ?_
    refine st_bsi (h := 22) (xs := [_, _, _]) Try.underlying28 ty5 (by decide) rfl rfl (by decide) rfl rfl (fun b22 => ?_)
    refine st (ev_slice_arr_all Try.underlying55 ty5 rfl) rfl rfl rfl ?_
    refine st_appendi (h := 22) Try.underlying28 Try.underlying28 ty5 rfl rfl rfl rfl (fun w1 sw => rd_blk_all sw (h := 4) rfl (by first | omega | (simp only [List.length_append, List.length_cons, List.length_nil, List.length_set, List.length_replicate, List.length_take, List.length_drop, ints_length, wr_length, sha_len, way_len _ (by assumption), secret_len, digits_len] <;> omega) | rfl)) (by first | omega | (simp only [List.length_append, List.length_cons, List.length_nil, List.length_set, List.length_replicate, List.length_take, List.length_drop, ints_length, wr_length, sha_len, way_len _ (by assumption), secret_len, digits_len] <;> omega)) (by decide) rfl rfl (fun v24 => ?_)
    refine st_callv has98 rfl (fun w1 sw => rsum_any v24 ([1, IntKind.u8.wrap c, IntKind.u8.wrap ((a + k : Nat) : Int)] ++ way c h0 a k) w1 (by simp only [List.length_append, List.length_cons, List.length_nil, hwl]; omega) (sw.own_rd (h := 22) rfl)) rfl rfl ?_
    refine at_eq (i := 25) (v' := .agg (ints .u8 (way c h0 a (k + 1))).toArray) rfl rfl ?_
    refine st_store_all 4 ty55 rfl rfl rfl rfl (by first | omega | (simp only [List.length_append, List.length_cons, List.length_nil, List.length_set, List.length_replicate, List.length_take, List.length_drop, ints_length, wr_length, sha_len, way_len _ (by assumption), secret_len, digits_len] <;> omega) | rfl) (ints_one _ _) (by first | omega | (simp only [List.length_append, List.length_cons, List.length_nil, List.length_set, List.length_replicate, List.length_take, List.length_drop, ints_length, wr_length, sha_len, way_len _ (by assumption), secret_len, digits_len] <;> omega) | rfl) rfl ?_
    refine op_nil ?_
    refine ax_block ?_
    refine ax_then ?_
    refine At.regs (L' := [(1, _), (3, _), (4, _), (8, _), (9, _), (12, _), (13, _), (14, _), (15, _), (18, _), (19, _), (20, _), (21, _), (22, _), (23, _), (24, _), (25, _)]) (.cons rfl (.cons rfl (.cons rfl (.cons rfl (.cons rfl (.cons rfl (.cons rfl (.cons rfl (.cons rfl (.cons rfl (.cons rfl (.cons rfl (.cons rfl (.cons rfl (.cons rfl (.cons rfl (.cons rfl (.nil _)))))))))))))))))) ?_
    refine cd_region ?_
    refine st (ev_move rfl) rfl rfl rfl ?_
    refine st (ev_add64 rfl rfl (by omega) (by omega)) rfl rfl rfl ?_
    refine st (ev_assign rfl) rfl rfl rfl ?_
    refine op_nil ?_
    refine ax_eq (i := 9) (v' := .int .i64 ((a + (k + 1) : Nat) : Int)) rfl (by congr 1) ?_
    exact at_again (k + 1) (by omega) (by omega) (.cons rfl (.cons rfl (.cons rfl (.cons rfl (.cons rfl (.nil _)))))) (.cons rfl (.cons rfl (.nil _))) (.nil _)
  ·
    obtain rfl : k = (min t 3 - a).toNat := by omega
    have hwk : way c h0 a (min t 3 - a).toNat = walk h0 c f t := by rw [walk, ha]; rfl
    refine at_heq (i := 4) (v' := .blk b4 (.cells (ints .u8 (walk h0 c f t)).toArray 55)) rfl (by rw [hwk]) ?_
    have hwl2 := walk_len c f t hl
    refine cd_exit ?_
    refine ax_then_exit ?_
    refine ax_then_exit ?_
    refine ax_block_hit ?_
    refine ax_then ?_
    refine At.regs (L' := [(4, _), (8, _)]) (.cons rfl (.cons rfl (.nil _))) ?_
    refine cd_seq ?_
    refine cd_region ?_
    refine st (ld_blk_all (h := 4) ty55 rfl rfl rfl (by first | omega | (simp only [List.length_append, List.length_cons, List.length_nil, List.length_set, List.length_replicate, List.length_take, List.length_drop, ints_length, wr_length, sha_len, way_len _ (by assumption), secret_len, digits_len] <;> omega) | rfl)) rfl rfl rfl ?_
    refine st_store_all 8 ty55 rfl rfl rfl rfl (by first | omega | (simp only [List.length_append, List.length_cons, List.length_nil, List.length_set, List.length_replicate, List.length_take, List.length_drop, ints_length, wr_length, sha_len, way_len _ (by assumption), secret_len, digits_len] <;> omega) | rfl) (ints_one _ _) (by first | omega | (simp only [List.length_append, List.length_cons, List.length_nil, List.length_set, List.length_replicate, List.length_take, List.length_drop, ints_length, wr_length, sha_len, way_len _ (by assumption), secret_len, digits_len] <;> omega) | rfl) rfl ?_
    refine op_nil ?_
    refine ax_then ?_
    refine At.regs (L' := [(8, _)]) (.cons rfl (.nil _)) ?_
    refine cd_ret ?_
    refine rt_cell (h0 := 8) (.inl rfl) Try.results95 ty55 rfl rfl rfl (by first | omega | (simp only [List.length_append, List.length_cons, List.length_nil, List.length_set, List.length_replicate, List.length_take, List.length_drop, ints_length, wr_length, sha_len, way_len _ (by assumption), secret_len, digits_len] <;> omega) | rfl) ?_
    exact fun w1 sw => ⟨rfl, sw.gives (.nil _)⟩
set_option maxRecDepth 20000 in
set_option maxHeartbeats 1000000 in
theorem rsecret_any (s : List Int) (l c : Int) (w : World) (hl : s.length = 32) : Calls Try.prog 96 #[.agg (ints .u8 (s)).toArray, .int .i64 l, .int .i64 c] w (PostV w (.agg (ints .u8 (secret s l c)).toArray)) := by
  refine calls_at (vs := [.agg (ints .u8 (s)).toArray, .int .i64 l, .int .i64 c]) (X := []) (H := []) (F := []) 19 Try.func96 rfl rfl rfl (Sat.start0 w) ?_
  refine cd_seq ?_
  refine cd_region ?_
  refine st_box (h := 3) rfl rfl rfl rfl (fun b3 => ?_)
  refine st_alloc (h := 6) ty55 rfl rfl rfl (fun b6 => ?_)
  refine op_nil ?_
  refine ax_then ?_
  refine At.regs (L' := [(1, _), (2, _), (3, _), (6, _)]) (.cons rfl (.cons rfl (.cons rfl (.cons rfl (.nil _))))) ?_
  refine cd_seq ?_
  refine cd_region ?_
  refine st_bsi (h := 8) (xs := [_]) Try.underlying28 ty5 (by decide) rfl rfl (by decide) rfl rfl (fun b8 => ?_)
  refine st (ev_slice_arr_all Try.underlying55 ty5 rfl) rfl rfl rfl ?_
  refine st_appendi (h := 8) Try.underlying28 Try.underlying28 ty5 rfl rfl rfl rfl (fun w1 sw => rd_blk_all sw (h := 3) rfl (by first | omega | (simp only [List.length_append, List.length_cons, List.length_nil, List.length_set, List.length_replicate, List.length_take, List.length_drop, ints_length, wr_length, sha_len, way_len _ (by assumption), secret_len, digits_len] <;> omega) | rfl)) (by first | omega | (simp only [List.length_append, List.length_cons, List.length_nil, List.length_set, List.length_replicate, List.length_take, List.length_drop, ints_length, wr_length, sha_len, way_len _ (by assumption), secret_len, digits_len] <;> omega)) (by decide) rfl rfl (fun v10 => ?_)
  refine st (ev_assign rfl) rfl rfl rfl ?_
  refine op_nil ?_
  refine ax_then ?_
  refine At.regs (L' := [(1, _), (2, _), (6, _), (7, _)]) (.cons rfl (.cons rfl (.cons rfl (.cons rfl (.nil _))))) ?_
  refine cd_seq ?_
  refine cd_region ?_
  refine st (ev_move rfl) rfl rfl rfl ?_
  refine st (ev_move rfl) rfl rfl rfl ?_
  refine st (ev_conv Try.underlying3 Try.underlying5 rfl) rfl rfl rfl ?_
  refine st (ev_move rfl) rfl rfl rfl ?_
  refine st (ev_conv Try.underlying3 Try.underlying5 rfl) rfl rfl rfl ?_
  refine st_bsi (h := 16) (xs := [_, _]) Try.underlying28 ty5 (by decide) rfl rfl (by decide) rfl rfl (fun b16 => ?_)
  refine st_appendi (h := 8) Try.underlying28 Try.underlying28 ty5 rfl rfl rfl rfl (fun w1 sw => sw.own_rd (h := 16) rfl) (by first | omega | (simp only [List.length_append, List.length_cons, List.length_nil, List.length_set, List.length_replicate, List.length_take, List.length_drop, ints_length, wr_length, sha_len, way_len _ (by assumption), secret_len, digits_len] <;> omega)) (by decide) rfl rfl (fun v17 => ?_)
  refine st_callv has98 rfl (fun w1 sw => rsum_any v17 ([0] ++ s ++ [IntKind.u8.wrap l, IntKind.u8.wrap c]) w1 (by simp only [List.length_append, List.length_cons, List.length_nil]; omega) (sw.own_rd (h := 8) rfl)) rfl rfl ?_
  refine at_eq (i := 18) (v' := .agg (ints .u8 (secret s l c)).toArray) rfl rfl ?_
  have hsl := secret_len s l c
  refine st_store_all 6 ty55 rfl rfl rfl rfl (by first | omega | (simp only [List.length_append, List.length_cons, List.length_nil, List.length_set, List.length_replicate, List.length_take, List.length_drop, ints_length, wr_length, sha_len, way_len _ (by assumption), secret_len, digits_len] <;> omega) | rfl) (ints_one _ _) (by first | omega | (simp only [List.length_append, List.length_cons, List.length_nil, List.length_set, List.length_replicate, List.length_take, List.length_drop, ints_length, wr_length, sha_len, way_len _ (by assumption), secret_len, digits_len] <;> omega) | rfl) rfl ?_
  refine op_nil ?_
  refine ax_then ?_
  refine At.regs (L' := [(6, _)]) (.cons rfl (.nil _)) ?_
  refine cd_ret ?_
  refine rt_cell (h0 := 6) (.inl rfl) Try.results96 ty55 rfl rfl rfl (by first | omega | (simp only [List.length_append, List.length_cons, List.length_nil, List.length_set, List.length_replicate, List.length_take, List.length_drop, ints_length, wr_length, sha_len, way_len _ (by assumption), secret_len, digits_len] <;> omega) | rfl) ?_
  exact fun w1 sw => ⟨rfl, sw.gives (.nil _)⟩
theorem byt_at (m : List Int) (k : Nat) : 0 ≤ (sha m).getD k 0 ∧ (sha m).getD k 0 ≤ 255 := (sha_byt m).get
theorem lk_range (m : List Int) (j : Nat) : 0 ≤ lack (sha m) 32 / 4 ^ j ∧ lack (sha m) 32 / 4 ^ j ≤ 96 := by
  have h := lack_range (sha m) 32
  exact ⟨Int.ediv_nonneg h.1 (Int.le_of_lt (Int.pow_pos (by decide))), Int.le_trans (Int.ediv_le_self _ h.1) h.2⟩
set_option maxRecDepth 20000 in
set_option maxHeartbeats 2000000 in
theorem digits_any (p : Value) (m : List Int) (w : World) (hm : m.length ≤ 140737488352000) (h : Rd w p 1 (ints .u8 m)) : Calls Try.prog 110 #[p] w (PostV w (.agg (ints .i64 (digits m)).toArray)) := by
  refine calls_at (vs := [p]) (X := []) (H := []) (F := [(0, .sl p 1 (ints .u8 (m)))]) 44 Try.func110 rfl rfl rfl (Sat.rd0 0 h) ?_
  refine cd_seq ?_
  refine cd_region ?_
  refine st_alloc (h := 2) ty153 rfl rfl rfl (fun b2 => ?_)
  refine op_nil ?_
  refine ax_then ?_
  refine At.regs (L' := [(0, _), (2, _)]) (.cons rfl (.cons rfl (.nil _))) ?_
  refine cd_seq ?_
  refine cd_region ?_
  refine st_alloc (h := 3) ty153 rfl rfl rfl (fun b3 => ?_)
  refine op_nil ?_
  refine ax_then ?_
  refine At.regs (L' := [(0, _), (2, _), (3, _)]) (.cons rfl (.cons rfl (.cons rfl (.nil _)))) ?_
  refine cd_seq ?_
  refine cd_region ?_
  refine st (ev_move rfl) rfl rfl rfl ?_
  refine st_callv has107 rfl (fun w1 sw => sum_any p m w1 hm (sw.sl_rd (h := 0) rfl)) rfl rfl ?_
  refine st_alloc (h := 4) ty55 rfl rfl rfl (fun b4 => ?_)
  refine st_store_all 4 ty55 rfl rfl rfl rfl (by first | omega | (simp only [List.length_append, List.length_cons, List.length_nil, List.length_set, List.length_replicate, List.length_take, List.length_drop, ints_length, wr_length, sha_len, way_len _ (by assumption), secret_len, digits_len] <;> omega) | rfl) (ints_one _ _) (by first | omega | (simp only [List.length_append, List.length_cons, List.length_nil, List.length_set, List.length_replicate, List.length_take, List.length_drop, ints_length, wr_length, sha_len, way_len _ (by assumption), secret_len, digits_len] <;> omega) | rfl) rfl ?_
  refine op_nil ?_
  refine ax_then ?_
  refine At.regs (L' := [(2, _), (3, _), (4, _)]) (.cons rfl (.cons rfl (.cons rfl (.nil _)))) ?_
  refine cd_seq ?_
  refine cd_region ?_
  refine st (ev_assign rfl) rfl rfl rfl ?_
  refine op_nil ?_
  refine ax_then ?_
  refine At.regs (L' := [(2, _), (3, _), (4, _), (5, _)]) (.cons rfl (.cons rfl (.cons rfl (.cons rfl (.nil _))))) ?_
  refine cd_seq ?_
  refine cd_seq ?_
  refine cd_region ?_
  refine st (ev_move rfl) rfl rfl rfl ?_
  refine op_nil ?_
  refine ax_then ?_
  refine At.regs (L' := [(2, _), (3, _), (4, _), (5, _), (10, _)]) (.cons rfl (.cons rfl (.cons rfl (.cons rfl (.cons rfl (.nil _)))))) ?_
  refine cd_block ?_
  have hsl := sha_len m
  refine cd_loop (ι := Nat) (fun i => i ≤ 32) (fun i => 32 - i)
      (fun i => [(2, .pointer (some ⟨b2, 0, none⟩)), (3, .pointer (some ⟨b3, 0, none⟩)), (4, .pointer (some ⟨b4, 0, none⟩)), (5, .int .i64 (lack (sha m) i)), (10, .int .i64 (i : Int))])
      (fun i => [(2, .blk b2 (.cells (ints .i64 (List.replicate 36 0)).toArray 153)), (3, .blk b3 (.cells (ints .i64 (d1 (sha m) (i))).toArray 153)), (4, .blk b4 (.cells (ints .u8 (sha m)).toArray 55))])
      (fun i => [])
      0 (by omega) (.cons rfl (.cons rfl (.cons rfl (.cons rfl (.cons rfl (.nil _)))))) (.cons rfl (.cons rfl (.cons rfl (.nil _)))) (.nil _) (fun i hi => ?_)
  have hlr := lack_range (sha m) i
  have hdl := d1_len (sha m) i (by omega)
  have hb := byt_at m (i / 4)
  have hsd := shr_dg (i := i) hb.1 hb.2
  have hdr := dg_range (sha m) i
  have hsl := sha_len m
  have e4 : 0 + ((i : Int) / 4).toNat * 1 = i / 4 := by omega
  have e0 : 0 + (i : Int).toNat * 1 = i := by omega
  refine cd_seq ?_
  refine cd_region ?_
  refine st (ev_lss rfl rfl) rfl rfl rfl ?_
  refine op_nil ?_
  refine ax_then ?_
  refine At.regs (L' := [(2, _), (3, _), (4, _), (5, _), (10, _), (11, _)]) (.cons rfl (.cons rfl (.cons rfl (.cons rfl (.cons rfl (.cons rfl (.nil _))))))) ?_
  refine cd_seq ?_
  refine cd_if rfl (fun hc11 => ?_) (fun hc11 => ?_)
  ·
    refine cd_skip ?_
    refine ax_then ?_
    refine At.regs (L' := [(2, _), (3, _), (4, _), (5, _), (10, _), (11, _)]) (.cons rfl (.cons rfl (.cons rfl (.cons rfl (.cons rfl (.cons rfl (.nil _))))))) ?_
    refine cd_seq ?_
    refine cd_block ?_
    refine cd_seq ?_
    refine cd_region ?_
    refine st (ev_move rfl) rfl rfl rfl ?_
    refine st (ev_assign rfl) rfl rfl rfl ?_
    refine op_nil ?_
    refine ax_then ?_
    refine At.regs (L' := [(2, _), (3, _), (4, _), (5, _), (6, _), (10, _), (11, _), (12, _)]) (.cons rfl (.cons rfl (.cons rfl (.cons rfl (.cons rfl (.cons rfl (.cons rfl (.cons rfl (.nil _))))))))) ?_
    refine cd_seq ?_
    refine cd_region ?_
    refine st (ev_move rfl) rfl rfl rfl ?_
    refine st (ev_move rfl) rfl rfl rfl ?_
    refine st (ev_quo64 rfl rfl (by omega) (by omega) (by omega)) rfl rfl rfl ?_
    refine st (ev_indexAddr_arr Try.underlying55 ty5 rfl rfl (by omega) (by omega)) rfl rfl rfl ?_
    refine st (ld_blk1 (h := 4) ty5 rfl rfl rfl (ints_get _ _ _ (by first | omega | (simp only [List.length_append, List.length_cons, List.length_nil, List.length_set, List.length_replicate, List.length_take, List.length_drop, ints_length, wr_length, sha_len, way_len _ (by assumption), secret_len, digits_len] <;> omega) | rfl))) rfl rfl rfl ?_
    refine at_eq (i := 17) (v' := .int .u8 ((sha m).getD (i / 4) 0)) rfl (by rw [e4]) ?_
    refine st (ev_move rfl) rfl rfl rfl ?_
    refine st (ev_rem64 rfl rfl (by omega) (by omega)) rfl rfl rfl ?_
    refine st (ev_mul64 rfl rfl (by omega) (by omega)) rfl rfl rfl ?_
    refine st (ev_sub64 rfl rfl (by omega) (by omega)) rfl rfl rfl ?_
    refine st (ev_shr rfl rfl (by omega)) rfl rfl rfl ?_
    refine at_eq (i := 22) (v' := .int .u8 ((sha m).getD (i / 4) 0 / 2 ^ (6 - 2 * (i % 4)))) rfl (by rw [hsd.1]) ?_
    refine st (ev_conv64 Try.underlying5 Try.underlying3 rfl (by omega) (by omega)) rfl rfl rfl ?_
    refine st (ev_and rfl rfl) rfl rfl rfl ?_
    refine at_eq (i := 24) (v' := .int .i64 (dg (sha m) i)) rfl (by rw [and3 hsd.2.1 (by omega)]; rfl) ?_
    refine st (ev_indexAddr_arr Try.underlying153 ty3 rfl rfl (by omega) (by omega)) rfl rfl rfl ?_
    refine st_store1 3 ty3 rfl rfl rfl rfl (by first | omega | (simp only [List.length_append, List.length_cons, List.length_nil, List.length_set, List.length_replicate, List.length_take, List.length_drop, ints_length, wr_length, sha_len, way_len _ (by assumption), secret_len, digits_len] <;> omega) | rfl) rfl ?_
    refine at_heq (i := 3) rfl (by rw [ints_set]) ?_
    have hdl1 := d1_len (sha m) (i + 1) (by omega)
    refine at_heq (i := 3) (v' := .blk b3 (.cells (ints .i64 (d1 (sha m) (i + 1))).toArray 153)) rfl (by rw [e0, d1_set _ _ (by omega)]) ?_
    refine op_nil ?_
    refine ax_then ?_
    refine At.regs (L' := [(2, _), (3, _), (4, _), (5, _), (6, _), (10, _), (11, _), (12, _), (13, _), (14, _), (15, _), (16, _), (17, _), (18, _), (19, _), (20, _), (21, _), (22, _), (23, _), (24, _), (25, _)]) (.cons rfl (.cons rfl (.cons rfl (.cons rfl (.cons rfl (.cons rfl (.cons rfl (.cons rfl (.cons rfl (.cons rfl (.cons rfl (.cons rfl (.cons rfl (.cons rfl (.cons rfl (.cons rfl (.cons rfl (.cons rfl (.cons rfl (.cons rfl (.cons rfl (.nil _)))))))))))))))))))))) ?_
    refine cd_region ?_
    refine st (ev_move rfl) rfl rfl rfl ?_
    refine st (ev_move rfl) rfl rfl rfl ?_
    refine st (ev_indexAddr_arr Try.underlying153 ty3 rfl rfl (by omega) (by omega)) rfl rfl rfl ?_
    refine st (ld_blk1 (h := 3) ty3 rfl rfl rfl (ints_get _ _ _ (by first | omega | (simp only [List.length_append, List.length_cons, List.length_nil, List.length_set, List.length_replicate, List.length_take, List.length_drop, ints_length, wr_length, sha_len, way_len _ (by assumption), secret_len, digits_len] <;> omega) | rfl))) rfl rfl rfl ?_
    refine at_eq (i := 29) (v' := .int .i64 (dg (sha m) i)) rfl (by rw [e0, d1_get _ _ (by omega)]) ?_
    refine st (ev_sub64 rfl rfl (by omega) (by omega)) rfl rfl rfl ?_
    refine st (ev_add64 rfl rfl (by omega) (by omega)) rfl rfl rfl ?_
    refine st (ev_assign rfl) rfl rfl rfl ?_
    refine op_nil ?_
    refine ax_block ?_
    refine ax_then ?_
    refine At.regs (L' := [(2, _), (3, _), (4, _), (5, _), (6, _), (10, _), (11, _), (12, _), (13, _), (14, _), (15, _), (16, _), (17, _), (18, _), (19, _), (20, _), (21, _), (22, _), (23, _), (24, _), (25, _), (26, _), (27, _), (28, _), (29, _), (30, _), (31, _)]) (.cons rfl (.cons rfl (.cons rfl (.cons rfl (.cons rfl (.cons rfl (.cons rfl (.cons rfl (.cons rfl (.cons rfl (.cons rfl (.cons rfl (.cons rfl (.cons rfl (.cons rfl (.cons rfl (.cons rfl (.cons rfl (.cons rfl (.cons rfl (.cons rfl (.cons rfl (.cons rfl (.cons rfl (.cons rfl (.cons rfl (.cons rfl (.nil _)))))))))))))))))))))))))))) ?_
    refine cd_region ?_
    refine st (ev_add64 rfl rfl (by omega) (by omega)) rfl rfl rfl ?_
    refine st (ev_move rfl) rfl rfl rfl ?_
    refine op_nil ?_
    refine ax_eq (i := 5) (v' := .int .i64 (lack (sha m) (i + 1))) rfl (by rw [lack]; skip) ?_
    exact at_again (i + 1) (by omega) (by omega) (.cons rfl (.cons rfl (.cons rfl (.cons rfl (.cons rfl (.nil _)))))) (.cons rfl (.cons rfl (.cons rfl (.nil _)))) (.nil _)
  ·
    obtain rfl : i = 32 := by omega
    refine cd_exit ?_
    refine ax_then_exit ?_
    refine ax_then_exit ?_
    refine ax_block_hit ?_
    refine ax_then ?_
    refine At.regs (L' := [(2, _), (3, _), (5, _)]) (.cons rfl (.cons rfl (.cons rfl (.nil _)))) ?_
    refine cd_seq ?_
    refine cd_seq ?_
    refine cd_region ?_
    refine st (ev_assign rfl) rfl rfl rfl ?_
    refine op_nil ?_
    refine ax_then ?_
    refine At.regs (L' := [(2, _), (3, _), (5, _), (7, _)]) (.cons rfl (.cons rfl (.cons rfl (.cons rfl (.nil _))))) ?_
    refine cd_block ?_
    refine at_eq (i := 5) (v' := .int .i64 (lack (sha m) 32 / 4 ^ 0)) rfl (by rw [Int.pow_zero, Int.ediv_one]) ?_
    refine at_eq (i := 7) (v' := .int .i64 ((32 + 0 : Nat) : Int)) rfl rfl ?_
    refine at_heq (i := 3) (v' := .blk b3 (.cells (ints .i64 (d2 (sha m) (0))).toArray 153)) rfl (by rw [d12]) ?_
    refine cd_loop (ι := Nat) (fun j => j ≤ 4) (fun j => 4 - j)
        (fun j => [(2, .pointer (some ⟨b2, 0, none⟩)), (3, .pointer (some ⟨b3, 0, none⟩)), (5, .int .i64 (lack (sha m) 32 / 4 ^ j)), (7, .int .i64 ((32 + j : Nat) : Int))])
        (fun j => [(2, .blk b2 (.cells (ints .i64 (List.replicate 36 0)).toArray 153)), (3, .blk b3 (.cells (ints .i64 (d2 (sha m) (j))).toArray 153))])
        (fun j => [])
        0 (by omega) (.cons rfl (.cons rfl (.cons rfl (.cons rfl (.nil _))))) (.cons rfl (.cons rfl (.nil _))) (.nil _) (fun j hi => ?_)
    have hlk := lk_range m j
    have hdl := d2_len (sha m) j (by omega)
    have e0 : 0 + ((32 + j : Nat) : Int).toNat * 1 = 32 + j := by omega
    refine cd_seq ?_
    refine cd_seq ?_
    refine cd_region ?_
    refine st (ev_move rfl) rfl rfl rfl ?_
    refine st (ev_lss rfl rfl) rfl rfl rfl ?_
    refine op_nil ?_
    refine ax_then ?_
    refine At.regs (L' := [(2, _), (3, _), (5, _), (7, _), (33, _), (34, _)]) (.cons rfl (.cons rfl (.cons rfl (.cons rfl (.cons rfl (.cons rfl (.nil _))))))) ?_
    refine cd_if rfl (fun hc34 => ?_) (fun hc34 => ?_)
    ·
      refine cd_skip ?_
      refine ax_then ?_
      refine At.regs (L' := [(2, _), (3, _), (5, _), (7, _), (33, _), (34, _)]) (.cons rfl (.cons rfl (.cons rfl (.cons rfl (.cons rfl (.cons rfl (.nil _))))))) ?_
      refine cd_seq ?_
      refine cd_block ?_
      refine cd_seq ?_
      refine cd_region ?_
      refine st (ev_move rfl) rfl rfl rfl ?_
      refine st (ev_move rfl) rfl rfl rfl ?_
      refine st (ev_and rfl rfl) rfl rfl rfl ?_
      refine at_eq (i := 39) (v' := .int .i64 (lack (sha m) 32 / 4 ^ j % 4)) rfl (by rw [and3 hlk.1 (by omega)]) ?_
      refine st (ev_indexAddr_arr Try.underlying153 ty3 rfl rfl (by omega) (by omega)) rfl rfl rfl ?_
      refine st_store1 3 ty3 rfl rfl rfl rfl (by first | omega | (simp only [List.length_append, List.length_cons, List.length_nil, List.length_set, List.length_replicate, List.length_take, List.length_drop, ints_length, wr_length, sha_len, way_len _ (by assumption), secret_len, digits_len] <;> omega) | rfl) rfl ?_
      refine at_heq (i := 3) rfl (by rw [ints_set]) ?_
      have hdl1 := d2_len (sha m) (j + 1) (by omega)
      refine at_heq (i := 3) (v' := .blk b3 (.cells (ints .i64 (d2 (sha m) (j + 1))).toArray 153)) rfl (by rw [e0, d2_set _ _ (by omega)]) ?_
      refine op_nil ?_
      refine ax_then ?_
      refine At.regs (L' := [(2, _), (3, _), (5, _), (7, _), (33, _), (34, _), (37, _), (38, _), (39, _), (40, _)]) (.cons rfl (.cons rfl (.cons rfl (.cons rfl (.cons rfl (.cons rfl (.cons rfl (.cons rfl (.cons rfl (.cons rfl (.nil _))))))))))) ?_
      refine cd_region ?_
      refine st (ev_move rfl) rfl rfl rfl ?_
      refine st (ev_shr rfl rfl (by omega)) rfl rfl rfl ?_
      refine at_eq (i := 42) (v' := .int .i64 (lack (sha m) 32 / 4 ^ (j + 1))) rfl (by rw [shr2 hlk.1, pow_step]) ?_
      refine st (ev_assign rfl) rfl rfl rfl ?_
      refine op_nil ?_
      refine ax_block ?_
      refine ax_then ?_
      refine At.regs (L' := [(2, _), (3, _), (5, _), (7, _), (33, _), (34, _), (37, _), (38, _), (39, _), (40, _), (41, _), (42, _)]) (.cons rfl (.cons rfl (.cons rfl (.cons rfl (.cons rfl (.cons rfl (.cons rfl (.cons rfl (.cons rfl (.cons rfl (.cons rfl (.cons rfl (.nil _))))))))))))) ?_
      refine cd_region ?_
      refine st (ev_move rfl) rfl rfl rfl ?_
      refine st (ev_add64 rfl rfl (by omega) (by omega)) rfl rfl rfl ?_
      refine st (ev_assign rfl) rfl rfl rfl ?_
      refine op_nil ?_
      refine ax_eq (i := 7) (v' := .int .i64 ((32 + (j + 1) : Nat) : Int)) rfl (by congr 1) ?_
      exact at_again (j + 1) (by omega) (by omega) (.cons rfl (.cons rfl (.cons rfl (.cons rfl (.nil _))))) (.cons rfl (.cons rfl (.nil _))) (.nil _)
    ·
      obtain rfl : j = 4 := by omega
      have hdg := digits_len m
      refine at_heq (i := 3) (v' := .blk b3 (.cells (ints .i64 (digits m)).toArray 153)) rfl rfl ?_
      refine cd_exit ?_
      refine ax_then_exit ?_
      refine ax_then_exit ?_
      refine ax_block_hit ?_
      refine ax_then ?_
      refine At.regs (L' := [(2, _), (3, _)]) (.cons rfl (.cons rfl (.nil _))) ?_
      refine cd_seq ?_
      refine cd_region ?_
      refine st (ld_blk_all (h := 3) ty153 rfl rfl rfl (by first | omega | (simp only [List.length_append, List.length_cons, List.length_nil, List.length_set, List.length_replicate, List.length_take, List.length_drop, ints_length, wr_length, sha_len, way_len _ (by assumption), secret_len, digits_len] <;> omega) | rfl)) rfl rfl rfl ?_
      refine st_store_all 2 ty153 rfl rfl rfl rfl (by first | omega | (simp only [List.length_append, List.length_cons, List.length_nil, List.length_set, List.length_replicate, List.length_take, List.length_drop, ints_length, wr_length, sha_len, way_len _ (by assumption), secret_len, digits_len] <;> omega) | rfl) (ints_one _ _) (by first | omega | (simp only [List.length_append, List.length_cons, List.length_nil, List.length_set, List.length_replicate, List.length_take, List.length_drop, ints_length, wr_length, sha_len, way_len _ (by assumption), secret_len, digits_len] <;> omega) | rfl) rfl ?_
      refine op_nil ?_
      refine ax_then ?_
      refine At.regs (L' := [(2, _)]) (.cons rfl (.nil _)) ?_
      refine cd_ret ?_
      refine rt_cell (h0 := 2) (.inl rfl) Try.results110 ty153 rfl rfl rfl (by first | omega | (simp only [List.length_append, List.length_cons, List.length_nil, List.length_set, List.length_replicate, List.length_take, List.length_drop, ints_length, wr_length, sha_len, way_len _ (by assumption), secret_len, digits_len] <;> omega) | rfl) ?_
      exact fun w1 sw => ⟨rfl, sw.gives (.nil _)⟩
set_option maxRecDepth 20000 in
set_option maxHeartbeats 2000000 in
theorem rdigits_any (p : Value) (m : List Int) (w : World) (hm : m.length ≤ 140737488352000) (h : Rd w p 1 (ints .u8 m)) : Calls Try.prog 104 #[p] w (PostV w (.agg (ints .i64 (digits m)).toArray)) := by
  refine calls_at (vs := [p]) (X := []) (H := []) (F := [(0, .sl p 1 (ints .u8 (m)))]) 45 Try.func104 rfl rfl rfl (Sat.rd0 0 h) ?_
  refine cd_seq ?_
  refine cd_region ?_
  refine st_alloc (h := 2) ty153 rfl rfl rfl (fun b2 => ?_)
  refine op_nil ?_
  refine ax_then ?_
  refine At.regs (L' := [(0, _), (2, _)]) (.cons rfl (.cons rfl (.nil _))) ?_
  refine cd_seq ?_
  refine cd_region ?_
  refine st_alloc (h := 3) ty153 rfl rfl rfl (fun b3 => ?_)
  refine op_nil ?_
  refine ax_then ?_
  refine At.regs (L' := [(0, _), (2, _), (3, _)]) (.cons rfl (.cons rfl (.cons rfl (.nil _)))) ?_
  refine cd_seq ?_
  refine cd_region ?_
  refine st (ev_move rfl) rfl rfl rfl ?_
  refine st_callv has98 rfl (fun w1 sw => rsum_any p m w1 hm (sw.sl_rd (h := 0) rfl)) rfl rfl ?_
  refine st_alloc (h := 4) ty55 rfl rfl rfl (fun b4 => ?_)
  refine st_store_all 4 ty55 rfl rfl rfl rfl (by first | omega | (simp only [List.length_append, List.length_cons, List.length_nil, List.length_set, List.length_replicate, List.length_take, List.length_drop, ints_length, wr_length, sha_len, way_len _ (by assumption), secret_len, digits_len] <;> omega) | rfl) (ints_one _ _) (by first | omega | (simp only [List.length_append, List.length_cons, List.length_nil, List.length_set, List.length_replicate, List.length_take, List.length_drop, ints_length, wr_length, sha_len, way_len _ (by assumption), secret_len, digits_len] <;> omega) | rfl) rfl ?_
  refine op_nil ?_
  refine ax_then ?_
  refine At.regs (L' := [(2, _), (3, _), (4, _)]) (.cons rfl (.cons rfl (.cons rfl (.nil _)))) ?_
  refine cd_seq ?_
  refine cd_region ?_
  refine st (ev_assign rfl) rfl rfl rfl ?_
  refine op_nil ?_
  refine ax_then ?_
  refine At.regs (L' := [(2, _), (3, _), (4, _), (5, _)]) (.cons rfl (.cons rfl (.cons rfl (.cons rfl (.nil _))))) ?_
  refine cd_seq ?_
  refine cd_seq ?_
  refine cd_region ?_
  refine st (ev_assign rfl) rfl rfl rfl ?_
  refine op_nil ?_
  refine ax_then ?_
  refine At.regs (L' := [(2, _), (3, _), (4, _), (5, _), (6, _)]) (.cons rfl (.cons rfl (.cons rfl (.cons rfl (.cons rfl (.nil _)))))) ?_
  refine cd_block ?_
  have hsl := sha_len m
  refine cd_loop (ι := Nat) (fun i => i ≤ 32) (fun i => 32 - i)
      (fun i => [(2, .pointer (some ⟨b2, 0, none⟩)), (3, .pointer (some ⟨b3, 0, none⟩)), (4, .pointer (some ⟨b4, 0, none⟩)), (5, .int .i64 (lack (sha m) i)), (6, .int .i64 (i : Int))])
      (fun i => [(2, .blk b2 (.cells (ints .i64 (List.replicate 36 0)).toArray 153)), (3, .blk b3 (.cells (ints .i64 (d1 (sha m) (i))).toArray 153)), (4, .blk b4 (.cells (ints .u8 (sha m)).toArray 55))])
      (fun i => [])
      0 (by omega) (.cons rfl (.cons rfl (.cons rfl (.cons rfl (.cons rfl (.nil _)))))) (.cons rfl (.cons rfl (.cons rfl (.nil _)))) (.nil _) (fun i hi => ?_)
  have hlr := lack_range (sha m) i
  have hdl := d1_len (sha m) i (by omega)
  have hb := byt_at m (i / 4)
  have hsd := shr_dg (i := i) hb.1 hb.2
  have hdr := dg_range (sha m) i
  have hsl := sha_len m
  have e4 : 0 + ((i : Int) / 4).toNat * 1 = i / 4 := by omega
  have e0 : 0 + (i : Int).toNat * 1 = i := by omega
  refine cd_seq ?_
  refine cd_seq ?_
  refine cd_region ?_
  refine st (ev_move rfl) rfl rfl rfl ?_
  refine st (ev_lss rfl rfl) rfl rfl rfl ?_
  refine op_nil ?_
  refine ax_then ?_
  refine At.regs (L' := [(2, _), (3, _), (4, _), (5, _), (6, _), (10, _), (11, _)]) (.cons rfl (.cons rfl (.cons rfl (.cons rfl (.cons rfl (.cons rfl (.cons rfl (.nil _)))))))) ?_
  refine cd_if rfl (fun hc11 => ?_) (fun hc11 => ?_)
  ·
    refine cd_skip ?_
    refine ax_then ?_
    refine At.regs (L' := [(2, _), (3, _), (4, _), (5, _), (6, _), (10, _), (11, _)]) (.cons rfl (.cons rfl (.cons rfl (.cons rfl (.cons rfl (.cons rfl (.cons rfl (.nil _)))))))) ?_
    refine cd_seq ?_
    refine cd_block ?_
    refine cd_seq ?_
    refine cd_region ?_
    refine st (ev_move rfl) rfl rfl rfl ?_
    refine st (ev_move rfl) rfl rfl rfl ?_
    refine st (ev_quo64 rfl rfl (by omega) (by omega) (by omega)) rfl rfl rfl ?_
    refine st (ev_indexAddr_arr Try.underlying55 ty5 rfl rfl (by omega) (by omega)) rfl rfl rfl ?_
    refine st (ld_blk1 (h := 4) ty5 rfl rfl rfl (ints_get _ _ _ (by first | omega | (simp only [List.length_append, List.length_cons, List.length_nil, List.length_set, List.length_replicate, List.length_take, List.length_drop, ints_length, wr_length, sha_len, way_len _ (by assumption), secret_len, digits_len] <;> omega) | rfl))) rfl rfl rfl ?_
    refine at_eq (i := 18) (v' := .int .u8 ((sha m).getD (i / 4) 0)) rfl (by rw [e4]) ?_
    refine st (ev_move rfl) rfl rfl rfl ?_
    refine st (ev_rem64 rfl rfl (by omega) (by omega)) rfl rfl rfl ?_
    refine st (ev_mul64 rfl rfl (by omega) (by omega)) rfl rfl rfl ?_
    refine st (ev_sub64 rfl rfl (by omega) (by omega)) rfl rfl rfl ?_
    refine st (ev_convu64 Try.underlying3 Try.underlying136 rfl (by omega) (by omega)) rfl rfl rfl ?_
    refine st (ev_shr rfl rfl (by omega)) rfl rfl rfl ?_
    refine at_eq (i := 24) (v' := .int .u8 ((sha m).getD (i / 4) 0 / 2 ^ (6 - 2 * (i % 4)))) rfl (by rw [hsd.1]) ?_
    refine st (ev_conv64 Try.underlying5 Try.underlying3 rfl (by omega) (by omega)) rfl rfl rfl ?_
    refine st (ev_and rfl rfl) rfl rfl rfl ?_
    refine at_eq (i := 26) (v' := .int .i64 (dg (sha m) i)) rfl (by rw [and3 hsd.2.1 (by omega)]; rfl) ?_
    refine st (ev_indexAddr_arr Try.underlying153 ty3 rfl rfl (by omega) (by omega)) rfl rfl rfl ?_
    refine st_store1 3 ty3 rfl rfl rfl rfl (by first | omega | (simp only [List.length_append, List.length_cons, List.length_nil, List.length_set, List.length_replicate, List.length_take, List.length_drop, ints_length, wr_length, sha_len, way_len _ (by assumption), secret_len, digits_len] <;> omega) | rfl) rfl ?_
    refine at_heq (i := 3) rfl (by rw [ints_set]) ?_
    have hdl1 := d1_len (sha m) (i + 1) (by omega)
    refine at_heq (i := 3) (v' := .blk b3 (.cells (ints .i64 (d1 (sha m) (i + 1))).toArray 153)) rfl (by rw [e0, d1_set _ _ (by omega)]) ?_
    refine op_nil ?_
    refine ax_then ?_
    refine At.regs (L' := [(2, _), (3, _), (4, _), (5, _), (6, _), (10, _), (11, _), (14, _), (15, _), (16, _), (17, _), (18, _), (19, _), (20, _), (21, _), (22, _), (23, _), (24, _), (25, _), (26, _), (27, _)]) (.cons rfl (.cons rfl (.cons rfl (.cons rfl (.cons rfl (.cons rfl (.cons rfl (.cons rfl (.cons rfl (.cons rfl (.cons rfl (.cons rfl (.cons rfl (.cons rfl (.cons rfl (.cons rfl (.cons rfl (.cons rfl (.cons rfl (.cons rfl (.cons rfl (.nil _)))))))))))))))))))))) ?_
    refine cd_region ?_
    refine st (ev_move rfl) rfl rfl rfl ?_
    refine st (ev_add64 rfl rfl (by omega) (by omega)) rfl rfl rfl ?_
    refine st (ev_move rfl) rfl rfl rfl ?_
    refine st (ev_indexAddr_arr Try.underlying153 ty3 rfl rfl (by omega) (by omega)) rfl rfl rfl ?_
    refine st (ld_blk1 (h := 3) ty3 rfl rfl rfl (ints_get _ _ _ (by first | omega | (simp only [List.length_append, List.length_cons, List.length_nil, List.length_set, List.length_replicate, List.length_take, List.length_drop, ints_length, wr_length, sha_len, way_len _ (by assumption), secret_len, digits_len] <;> omega) | rfl))) rfl rfl rfl ?_
    refine at_eq (i := 32) (v' := .int .i64 (dg (sha m) i)) rfl (by rw [e0, d1_get _ _ (by omega)]) ?_
    refine st (ev_sub64 rfl rfl (by omega) (by omega)) rfl rfl rfl ?_
    refine st (ev_assign rfl) rfl rfl rfl ?_
    refine op_nil ?_
    refine ax_block ?_
    refine ax_then ?_
    refine At.regs (L' := [(2, _), (3, _), (4, _), (5, _), (6, _), (10, _), (11, _), (14, _), (15, _), (16, _), (17, _), (18, _), (19, _), (20, _), (21, _), (22, _), (23, _), (24, _), (25, _), (26, _), (27, _), (28, _), (29, _), (30, _), (31, _), (32, _), (33, _)]) (.cons rfl (.cons rfl (.cons rfl (.cons rfl (.cons rfl (.cons rfl (.cons rfl (.cons rfl (.cons rfl (.cons rfl (.cons rfl (.cons rfl (.cons rfl (.cons rfl (.cons rfl (.cons rfl (.cons rfl (.cons rfl (.cons rfl (.cons rfl (.cons rfl (.cons rfl (.cons rfl (.cons rfl (.cons rfl (.cons rfl (.cons rfl (.nil _)))))))))))))))))))))))))))) ?_
    refine cd_region ?_
    refine st (ev_move rfl) rfl rfl rfl ?_
    refine st (ev_add64 rfl rfl (by omega) (by omega)) rfl rfl rfl ?_
    refine st (ev_assign rfl) rfl rfl rfl ?_
    refine op_nil ?_
    refine ax_eq (i := 5) (v' := .int .i64 (lack (sha m) (i + 1))) rfl (by rw [lack]; congr 1; omega) ?_
    exact at_again (i + 1) (by omega) (by omega) (.cons rfl (.cons rfl (.cons rfl (.cons rfl (.cons rfl (.nil _)))))) (.cons rfl (.cons rfl (.cons rfl (.nil _)))) (.nil _)
  ·
    obtain rfl : i = 32 := by omega
    refine cd_exit ?_
    refine ax_then_exit ?_
    refine ax_then_exit ?_
    refine ax_block_hit ?_
    refine ax_then ?_
    refine At.regs (L' := [(2, _), (3, _), (5, _)]) (.cons rfl (.cons rfl (.cons rfl (.nil _)))) ?_
    refine cd_seq ?_
    refine cd_seq ?_
    refine cd_region ?_
    refine st (ev_assign rfl) rfl rfl rfl ?_
    refine op_nil ?_
    refine ax_then ?_
    refine At.regs (L' := [(2, _), (3, _), (5, _), (7, _)]) (.cons rfl (.cons rfl (.cons rfl (.cons rfl (.nil _))))) ?_
    refine cd_block ?_
    refine at_eq (i := 5) (v' := .int .i64 (lack (sha m) 32 / 4 ^ 0)) rfl (by rw [Int.pow_zero, Int.ediv_one]) ?_
    refine at_eq (i := 7) (v' := .int .i64 ((32 + 0 : Nat) : Int)) rfl rfl ?_
    refine at_heq (i := 3) (v' := .blk b3 (.cells (ints .i64 (d2 (sha m) (0))).toArray 153)) rfl (by rw [d12]) ?_
    refine cd_loop (ι := Nat) (fun j => j ≤ 4) (fun j => 4 - j)
        (fun j => [(2, .pointer (some ⟨b2, 0, none⟩)), (3, .pointer (some ⟨b3, 0, none⟩)), (5, .int .i64 (lack (sha m) 32 / 4 ^ j)), (7, .int .i64 ((32 + j : Nat) : Int))])
        (fun j => [(2, .blk b2 (.cells (ints .i64 (List.replicate 36 0)).toArray 153)), (3, .blk b3 (.cells (ints .i64 (d2 (sha m) (j))).toArray 153))])
        (fun j => [])
        0 (by omega) (.cons rfl (.cons rfl (.cons rfl (.cons rfl (.nil _))))) (.cons rfl (.cons rfl (.nil _))) (.nil _) (fun j hi => ?_)
    have hlk := lk_range m j
    have hdl := d2_len (sha m) j (by omega)
    have e0 : 0 + ((32 + j : Nat) : Int).toNat * 1 = 32 + j := by omega
    refine cd_seq ?_
    refine cd_seq ?_
    refine cd_region ?_
    refine st (ev_move rfl) rfl rfl rfl ?_
    refine st (ev_lss rfl rfl) rfl rfl rfl ?_
    refine op_nil ?_
    refine ax_then ?_
    refine At.regs (L' := [(2, _), (3, _), (5, _), (7, _), (34, _), (35, _)]) (.cons rfl (.cons rfl (.cons rfl (.cons rfl (.cons rfl (.cons rfl (.nil _))))))) ?_
    refine cd_if rfl (fun hc35 => ?_) (fun hc35 => ?_)
    ·
      refine cd_skip ?_
      refine ax_then ?_
      refine At.regs (L' := [(2, _), (3, _), (5, _), (7, _), (34, _), (35, _)]) (.cons rfl (.cons rfl (.cons rfl (.cons rfl (.cons rfl (.cons rfl (.nil _))))))) ?_
      refine cd_seq ?_
      refine cd_block ?_
      refine cd_seq ?_
      refine cd_region ?_
      refine st (ev_move rfl) rfl rfl rfl ?_
      refine st (ev_move rfl) rfl rfl rfl ?_
      refine st (ev_and rfl rfl) rfl rfl rfl ?_
      refine at_eq (i := 40) (v' := .int .i64 (lack (sha m) 32 / 4 ^ j % 4)) rfl (by rw [and3 hlk.1 (by omega)]) ?_
      refine st (ev_indexAddr_arr Try.underlying153 ty3 rfl rfl (by omega) (by omega)) rfl rfl rfl ?_
      refine st_store1 3 ty3 rfl rfl rfl rfl (by first | omega | (simp only [List.length_append, List.length_cons, List.length_nil, List.length_set, List.length_replicate, List.length_take, List.length_drop, ints_length, wr_length, sha_len, way_len _ (by assumption), secret_len, digits_len] <;> omega) | rfl) rfl ?_
      refine at_heq (i := 3) rfl (by rw [ints_set]) ?_
      have hdl1 := d2_len (sha m) (j + 1) (by omega)
      refine at_heq (i := 3) (v' := .blk b3 (.cells (ints .i64 (d2 (sha m) (j + 1))).toArray 153)) rfl (by rw [e0, d2_set _ _ (by omega)]) ?_
      refine op_nil ?_
      refine ax_then ?_
      refine At.regs (L' := [(2, _), (3, _), (5, _), (7, _), (34, _), (35, _), (38, _), (39, _), (40, _), (41, _)]) (.cons rfl (.cons rfl (.cons rfl (.cons rfl (.cons rfl (.cons rfl (.cons rfl (.cons rfl (.cons rfl (.cons rfl (.nil _))))))))))) ?_
      refine cd_region ?_
      refine st (ev_move rfl) rfl rfl rfl ?_
      refine st (ev_shr rfl rfl (by omega)) rfl rfl rfl ?_
      refine at_eq (i := 43) (v' := .int .i64 (lack (sha m) 32 / 4 ^ (j + 1))) rfl (by rw [shr2 hlk.1, pow_step]) ?_
      refine st (ev_assign rfl) rfl rfl rfl ?_
      refine op_nil ?_
      refine ax_block ?_
      refine ax_then ?_
      refine At.regs (L' := [(2, _), (3, _), (5, _), (7, _), (34, _), (35, _), (38, _), (39, _), (40, _), (41, _), (42, _), (43, _)]) (.cons rfl (.cons rfl (.cons rfl (.cons rfl (.cons rfl (.cons rfl (.cons rfl (.cons rfl (.cons rfl (.cons rfl (.cons rfl (.cons rfl (.nil _))))))))))))) ?_
      refine cd_region ?_
      refine st (ev_move rfl) rfl rfl rfl ?_
      refine st (ev_add64 rfl rfl (by omega) (by omega)) rfl rfl rfl ?_
      refine st (ev_assign rfl) rfl rfl rfl ?_
      refine op_nil ?_
      refine ax_eq (i := 7) (v' := .int .i64 ((32 + (j + 1) : Nat) : Int)) rfl (by congr 1) ?_
      exact at_again (j + 1) (by omega) (by omega) (.cons rfl (.cons rfl (.cons rfl (.cons rfl (.nil _))))) (.cons rfl (.cons rfl (.nil _))) (.nil _)
    ·
      obtain rfl : j = 4 := by omega
      have hdg := digits_len m
      refine at_heq (i := 3) (v' := .blk b3 (.cells (ints .i64 (digits m)).toArray 153)) rfl rfl ?_
      refine cd_exit ?_
      refine ax_then_exit ?_
      refine ax_then_exit ?_
      refine ax_block_hit ?_
      refine ax_then ?_
      refine At.regs (L' := [(2, _), (3, _)]) (.cons rfl (.cons rfl (.nil _))) ?_
      refine cd_seq ?_
      refine cd_region ?_
      refine st (ld_blk_all (h := 3) ty153 rfl rfl rfl (by first | omega | (simp only [List.length_append, List.length_cons, List.length_nil, List.length_set, List.length_replicate, List.length_take, List.length_drop, ints_length, wr_length, sha_len, way_len _ (by assumption), secret_len, digits_len] <;> omega) | rfl)) rfl rfl rfl ?_
      refine st_store_all 2 ty153 rfl rfl rfl rfl (by first | omega | (simp only [List.length_append, List.length_cons, List.length_nil, List.length_set, List.length_replicate, List.length_take, List.length_drop, ints_length, wr_length, sha_len, way_len _ (by assumption), secret_len, digits_len] <;> omega) | rfl) (ints_one _ _) (by first | omega | (simp only [List.length_append, List.length_cons, List.length_nil, List.length_set, List.length_replicate, List.length_take, List.length_drop, ints_length, wr_length, sha_len, way_len _ (by assumption), secret_len, digits_len] <;> omega) | rfl) rfl ?_
      refine op_nil ?_
      refine ax_then ?_
      refine At.regs (L' := [(2, _)]) (.cons rfl (.nil _)) ?_
      refine cd_ret ?_
      refine rt_cell (h0 := 2) (.inl rfl) Try.results104 ty153 rfl rfl rfl (by first | omega | (simp only [List.length_append, List.length_cons, List.length_nil, List.length_set, List.length_replicate, List.length_take, List.length_drop, ints_length, wr_length, sha_len, way_len _ (by assumption), secret_len, digits_len] <;> omega) | rfl) ?_
      exact fun w1 sw => ⟨rfl, sw.gives (.nil _)⟩
end Go.Proofs.Ytgfnmolbagilmaa
namespace Go.Proofs.Ytgfnmolbagilmaa
open Go Go.RowKit Fw
open Sha
open Ots
set_option linter.unusedVariables false
set_option linter.unusedSimpArgs false
set_option maxRecDepth 20000 in
set_option maxHeartbeats 2000000 in
theorem ends_any (k : Nat) (hk : Has Try.prog k) (vf vc : List Value) (v : Value) (cs : List (List Int)) (g : Nat → List Int) (hg : ∀ i, (g i).length = 32) (w : World) (h : Rd w v 32 (flat cs)) (hc : ∀ (w1 : World) (i : Nat), i < 36 → Rd w1 v 32 (flat cs) → Calls Try.prog k (vf ++ [Value.int .i64 (i : Int)] ++ vc).toArray w1 (PostV w1 (.agg (ints .u8 (g i)).toArray))) : Calls Try.prog 105 #[.func (.func k) vf.toArray vc.toArray] w (PostV w (.agg (ints .u8 (ends g)).toArray)) := by
  refine calls_at (vs := [.func (.func k) vf.toArray vc.toArray]) (X := []) (H := []) (F := [(20, .sl v 32 (flat (cs)))]) 19 Try.func105 rfl rfl rfl (Sat.rd0 20 h) ?_
  refine cd_seq ?_
  refine cd_region ?_
  refine st_alloc (h := 2) ty55 rfl rfl rfl (fun b2 => ?_)
  refine op_nil ?_
  refine ax_then ?_
  refine At.regs (L' := [(0, _), (2, _)]) (.cons rfl (.cons rfl (.nil _))) ?_
  refine cd_seq ?_
  refine cd_region ?_
  refine st_bsi (h := 6) (xs := [_]) Try.underlying28 ty5 (by decide) rfl rfl (by decide) rfl rfl (fun b6 => ?_)
  refine st (ev_assign rfl) rfl rfl rfl ?_
  refine op_nil ?_
  refine ax_then ?_
  refine At.regs (L' := [(0, _), (2, _), (3, _)]) (.cons rfl (.cons rfl (.cons rfl (.nil _)))) ?_
  refine cd_seq ?_
  refine cd_seq ?_
  refine cd_region ?_
  refine st (ev_move rfl) rfl rfl rfl ?_
  refine op_nil ?_
  refine ax_then ?_
  refine At.regs (L' := [(0, _), (2, _), (3, _), (7, _)]) (.cons rfl (.cons rfl (.cons rfl (.cons rfl (.nil _))))) ?_
  refine cd_block ?_
  refine cd_loop (ι := Nat × Value) (fun x => x.1 ≤ 36) (fun x => 36 - x.1)
      (fun x => [(0, .func (.func k) vf.toArray vc.toArray), (2, .pointer (some ⟨b2, 0, none⟩)), (3, x.2), (7, .int .i64 (x.1 : Int))])
      (fun x => [(2, .blk b2 (.cells (ints .u8 (List.replicate 32 0)).toArray 55)), (6, .own (x.2) 5 1 (ints .u8 (tex g x.1)))])
      (fun x => [(20, .sl v 32 (flat (cs)))])
      (0, _) (by omega) (.cons rfl (.cons rfl (.cons rfl (.cons rfl (.nil _))))) (.cons rfl (.cons rfl (.nil _))) (.cons rfl (.nil _)) (fun x hi => ?_)
  have htx := tex_len hg x.1
  have hgx := hg x.1
  refine cd_seq ?_
  refine cd_region ?_
  refine st (ev_lss rfl rfl) rfl rfl rfl ?_
  refine op_nil ?_
  refine ax_then ?_
  refine At.regs (L' := [(0, _), (2, _), (3, _), (7, _), (8, _)]) (.cons rfl (.cons rfl (.cons rfl (.cons rfl (.cons rfl (.nil _)))))) ?_
  refine cd_seq ?_
  refine cd_if rfl (fun hc8 => ?_) (fun hc8 => ?_)
  ·
    refine cd_skip ?_
    refine ax_then ?_
    refine At.regs (L' := [(0, _), (2, _), (3, _), (7, _), (8, _)]) (.cons rfl (.cons rfl (.cons rfl (.cons rfl (.cons rfl (.nil _)))))) ?_
    refine cd_seq ?_
    refine cd_block ?_
    refine cd_seq ?_
    refine cd_region ?_
    refine st (ev_move rfl) rfl rfl rfl ?_
    refine st (ev_assign rfl) rfl rfl rfl ?_
    refine op_nil ?_
    refine ax_then ?_
    refine At.regs (L' := [(0, _), (2, _), (3, _), (4, _), (7, _), (8, _), (9, _)]) (.cons rfl (.cons rfl (.cons rfl (.cons rfl (.cons rfl (.cons rfl (.cons rfl (.nil _)))))))) ?_
    refine cd_seq ?_
    refine cd_region ?_
    refine st (ev_move rfl) rfl rfl rfl ?_
    refine st (ev_move rfl) rfl rfl rfl ?_
    refine st_callv_fn hk rfl rfl rfl (fun w1 sw => hc w1 x.1 (by omega) (sw.sl_rd (h := 20) rfl)) rfl rfl ?_
    refine st_alloc (h := 5) ty55 rfl rfl rfl (fun b5 => ?_)
    refine st_store_all 5 ty55 rfl rfl rfl rfl (by first | omega | (simp only [List.length_append, List.length_cons, List.length_nil, List.length_set, List.length_replicate, List.length_take, List.length_drop, ints_length, wr_length, sha_len, way_len _ (by assumption), secret_len, digits_len] <;> omega) | rfl) (ints_one _ _) (by first | omega | (simp only [List.length_append, List.length_cons, List.length_nil, List.length_set, List.length_replicate, List.length_take, List.length_drop, ints_length, wr_length, sha_len, way_len _ (by assumption), secret_len, digits_len] <;> omega) | rfl) rfl ?_
    refine op_nil ?_
    refine ax_then ?_
    refine At.regs (L' := [(0, _), (2, _), (3, _), (4, _), (5, _), (7, _), (8, _), (9, _), (10, _), (11, _), (12, _)]) (.cons rfl (.cons rfl (.cons rfl (.cons rfl (.cons rfl (.cons rfl (.cons rfl (.cons rfl (.cons rfl (.cons rfl (.cons rfl (.nil _)))))))))))) ?_
    refine cd_region ?_
    refine st (ev_move rfl) rfl rfl rfl ?_
    refine st (ev_slice_arr_all Try.underlying55 ty5 rfl) rfl rfl rfl ?_
    refine st_appendi (h := 6) Try.underlying28 Try.underlying28 ty5 rfl rfl rfl rfl (fun w1 sw => rd_blk_all sw (h := 5) rfl (by first | omega | (simp only [List.length_append, List.length_cons, List.length_nil, List.length_set, List.length_replicate, List.length_take, List.length_drop, ints_length, wr_length, sha_len, way_len _ (by assumption), secret_len, digits_len] <;> omega) | rfl)) (by first | omega | (simp only [List.length_append, List.length_cons, List.length_nil, List.length_set, List.length_replicate, List.length_take, List.length_drop, ints_length, wr_length, sha_len, way_len _ (by assumption), secret_len, digits_len] <;> omega)) (by decide) rfl rfl (fun v15 => ?_)
    refine st (ev_assign rfl) rfl rfl rfl ?_
    refine op_nil ?_
    refine ax_block ?_
    refine ax_then ?_
    refine At.regs (L' := [(0, _), (2, _), (3, _), (4, _), (5, _), (7, _), (8, _), (9, _), (10, _), (11, _), (12, _), (13, _), (14, _), (15, _)]) (.cons rfl (.cons rfl (.cons rfl (.cons rfl (.cons rfl (.cons rfl (.cons rfl (.cons rfl (.cons rfl (.cons rfl (.cons rfl (.cons rfl (.cons rfl (.cons rfl (.nil _))))))))))))))) ?_
    refine cd_region ?_
    refine st (ev_add64 rfl rfl (by omega) (by omega)) rfl rfl rfl ?_
    refine st (ev_move rfl) rfl rfl rfl ?_
    refine op_nil ?_
    refine ax_heq (i := 6) (v' := .own (v15) 5 1 (ints .u8 (tex g (x.1 + 1)))) rfl rfl ?_
    exact at_again ((x.1 + 1, v15)) (by show x.1 + 1 ≤ 36; omega) (by omega) (.cons rfl (.cons rfl (.cons rfl (.cons rfl (.nil _))))) (.cons rfl (.cons rfl (.nil _))) (.cons rfl (.nil _))
  ·
    obtain ⟨j, u⟩ := x
    dsimp only at hi hc8 htx hgx ⊢
    obtain rfl : j = 36 := by omega
    refine cd_exit ?_
    refine ax_then_exit ?_
    refine ax_then_exit ?_
    refine ax_block_hit ?_
    refine ax_then ?_
    refine At.regs (L' := [(2, _), (3, _)]) (.cons rfl (.cons rfl (.nil _))) ?_
    refine cd_seq ?_
    refine cd_region ?_
    refine st (ev_move rfl) rfl rfl rfl ?_
    refine st_callv has107 rfl (fun w1 sw => sum_any u (tex g 36) w1 (by rw [htx]; omega) (sw.own_rd (h := 6) rfl)) rfl rfl ?_
    refine st_store_all 2 ty55 rfl rfl rfl rfl (by first | omega | (simp only [List.length_append, List.length_cons, List.length_nil, List.length_set, List.length_replicate, List.length_take, List.length_drop, ints_length, wr_length, sha_len, way_len _ (by assumption), secret_len, digits_len] <;> omega) | rfl) (ints_one _ _) (by first | omega | (simp only [List.length_append, List.length_cons, List.length_nil, List.length_set, List.length_replicate, List.length_take, List.length_drop, ints_length, wr_length, sha_len, way_len _ (by assumption), secret_len, digits_len] <;> omega) | rfl) rfl ?_
    refine op_nil ?_
    refine ax_then ?_
    refine At.regs (L' := [(2, _)]) (.cons rfl (.nil _)) ?_
    refine cd_ret ?_
    refine rt_cell (h0 := 2) (.inl rfl) Try.results105 ty55 rfl rfl rfl (by first | omega | (simp only [List.length_append, List.length_cons, List.length_nil, List.length_set, List.length_replicate, List.length_take, List.length_drop, ints_length, wr_length, sha_len, way_len _ (by assumption), secret_len, digits_len] <;> omega) | rfl) ?_
    exact fun w1 sw => ⟨rfl, sw.gives (.nil _)⟩
end Go.Proofs.Ytgfnmolbagilmaa
namespace Go.Proofs.Ytgfnmolbagilmaa
open Go Go.RowKit Fw
open Sha
open Ots
set_option linter.unusedVariables false
set_option linter.unusedSimpArgs false
def sign (s : List Int) (l : Int) (m : List Int) (n : Nat) : List (List Int) := (List.range n).map fun (c : Nat) => walk (secret s l c) c 0 ((digits m).getD c 0)
theorem sign_snoc (s : List Int) (l : Int) (m : List Int) (n : Nat) : sign s l m (n + 1) = sign s l m n ++ [walk (secret s l n) n 0 ((digits m).getD n 0)] := by
  simp [sign, List.range_succ]
theorem sign_h32 (s : List Int) (l : Int) (m : List Int) (n : Nat) : H32 (sign s l m n) := fun h hh => by
  simp only [sign, List.mem_map] at hh
  obtain ⟨c, _, rfl⟩ := hh
  exact walk_len _ _ _ (secret_len _ _ _)
theorem sign_len (s : List Int) (l : Int) (m : List Int) (n : Nat) : (sign s l m n).length = n := by simp [sign]
end Go.Proofs.Ytgfnmolbagilmaa
namespace Go.Proofs.Ytgfnmolbagilmaa
open Go Go.RowKit Fw
open Sha
open Ots
set_option linter.unusedVariables false
set_option linter.unusedSimpArgs false
theorem tex_len' {f : Nat → List Int} : ∀ n, (∀ i, i < n → (f i).length = 32) → (tex f n).length = 1 + 32 * n
  | 0, _ => rfl
  | n + 1, h => by rw [tex, List.length_append, tex_len' n (fun i hi => h i (by omega)), h n (by omega)]; omega
def pubs (s : List Int) (l : Int) (n : Nat) : List (List Int) := (List.range n).map fun (c : Nat) => walk (secret s l c) c 0 3
theorem pubs_snoc (s : List Int) (l : Int) (n : Nat) : pubs s l (n + 1) = pubs s l n ++ [walk (secret s l n) n 0 3] := by simp [pubs, List.range_succ]
theorem pubs_h32 (s : List Int) (l : Int) (n : Nat) : H32 (pubs s l n) := fun h hh => by
  simp only [pubs, List.mem_map] at hh
  obtain ⟨c, _, rfl⟩ := hh
  exact walk_len _ _ _ (secret_len _ _ _)
theorem pubs_len (s : List Int) (l : Int) (n : Nat) : (pubs s l n).length = n := by simp [pubs]
theorem pubs_ends (s : List Int) (l : Int) : ends (fun i => (pubs s l 36).getD i []) = pub s l := ends_congr fun i hi => by
  rw [pubs, List.getD_eq_getElem?_getD, List.getElem?_map, List.getElem?_range hi]
  rfl
set_option maxRecDepth 20000 in
set_option maxHeartbeats 2000000 in
theorem rends_any (p : Value) (hs : List (List Int)) (w : World) (hu : H32 hs) (hn : hs.length = 36) (h : Rd w p 32 (flat hs)) : Calls Try.prog 97 #[p] w (PostV w (.agg (ints .u8 (ends fun i => hs.getD i [])).toArray)) := by
  refine calls_at (vs := [p]) (X := []) (H := []) (F := [(0, .sl p 32 (flat (hs)))]) 20 Try.func97 rfl rfl rfl (Sat.rd0 0 h) ?_
  refine cd_seq ?_
  refine cd_region ?_
  refine st_alloc (h := 2) ty55 rfl rfl rfl (fun b2 => ?_)
  refine op_nil ?_
  refine ax_then ?_
  refine At.regs (L' := [(0, _), (2, _)]) (.cons rfl (.cons rfl (.nil _))) ?_
  refine cd_seq ?_
  refine cd_region ?_
  refine st_bsi (h := 5) (xs := [_]) Try.underlying28 ty5 (by decide) rfl rfl (by decide) rfl rfl (fun b5 => ?_)
  refine st (ev_assign rfl) rfl rfl rfl ?_
  refine op_nil ?_
  refine ax_then ?_
  refine At.regs (L' := [(0, _), (2, _), (3, _)]) (.cons rfl (.cons rfl (.cons rfl (.nil _)))) ?_
  refine cd_seq ?_
  refine cd_seq ?_
  refine cd_region ?_
  refine st (ev_assign rfl) rfl rfl rfl ?_
  refine op_nil ?_
  refine ax_then ?_
  refine At.regs (L' := [(0, _), (2, _), (3, _), (4, _)]) (.cons rfl (.cons rfl (.cons rfl (.cons rfl (.nil _))))) ?_
  refine cd_block ?_
  refine cd_loop (ι := Nat × Value) (fun x => x.1 ≤ 36) (fun x => 36 - x.1)
      (fun x => [(0, p), (2, .pointer (some ⟨b2, 0, none⟩)), (3, x.2), (4, .int .i64 (x.1 : Int))])
      (fun x => [(2, .blk b2 (.cells (ints .u8 (List.replicate 32 0)).toArray 55)), (5, .own (x.2) 5 1 (ints .u8 (tex (fun i => hs.getD i []) x.1)))])
      (fun x => [(0, .sl p 32 (flat (hs)))])
      (0, _) (by omega) (.cons rfl (.cons rfl (.cons rfl (.cons rfl (.nil _))))) (.cons rfl (.cons rfl (.nil _))) (.cons rfl (.nil _)) (fun x hi => ?_)
  have htx := tex_len' (f := fun i => hs.getD i []) x.1 (fun i hi2 => hu.get (by omega))
  have hgx : x.1 < 36 → (hs.getD (x.1 : Int).toNat []).length = 32 := fun hx => hu.get (by omega)
  have e0 : (x.1 : Int).toNat = x.1 := by omega
  refine cd_seq ?_
  refine cd_seq ?_
  refine cd_region ?_
  refine st (ev_move rfl) rfl rfl rfl ?_
  refine st (ev_move rfl) rfl rfl rfl ?_
  refine st (ev_len_rdh (h := 0) Try.underlying22 rfl rfl (by assumption)) rfl rfl rfl ?_
  refine st (ev_lss rfl rfl) rfl rfl rfl ?_
  refine op_nil ?_
  refine ax_then ?_
  refine At.regs (L' := [(0, _), (2, _), (3, _), (4, _), (6, _), (7, _), (8, _), (9, _)]) (.cons rfl (.cons rfl (.cons rfl (.cons rfl (.cons rfl (.cons rfl (.cons rfl (.cons rfl (.nil _))))))))) ?_
  refine cd_if rfl (fun hc9 => ?_) (fun hc9 => ?_)
  ·
    have hgx2 := hgx (by omega)
    refine cd_skip ?_
    refine ax_then ?_
    refine At.regs (L' := [(0, _), (2, _), (3, _), (4, _), (6, _), (7, _), (8, _), (9, _)]) (.cons rfl (.cons rfl (.cons rfl (.cons rfl (.cons rfl (.cons rfl (.cons rfl (.cons rfl (.nil _))))))))) ?_
    refine cd_seq ?_
    refine cd_block ?_
    refine cd_region ?_
    refine st (ev_move rfl) rfl rfl rfl ?_
    refine st (ev_move rfl) rfl rfl rfl ?_
    refine st (ev_move rfl) rfl rfl rfl ?_
    refine st (ev_indexAddr_rdh (h := 0) Try.underlying22 ty55 rfl rfl rfl (by assumption) (by omega) (by omega)) rfl rfl rfl ?_
    refine st (ev_arrAt Try.underlying55 ty5 rfl (fun w1 sw => sw.sl_rd (h := 0) rfl) (by rw [flat_len (by assumption)]; omega)) rfl rfl rfl ?_
    refine st_appendi (h := 5) Try.underlying28 Try.underlying28 ty5 rfl rfl rfl rfl (fun w1 sw => rd_arrh (sw.sl_rd (h := 0) rfl) (by assumption) (by omega)) (by first | omega | (simp only [List.length_append, List.length_cons, List.length_nil, List.length_set, List.length_replicate, List.length_take, List.length_drop, ints_length, wr_length, sha_len, way_len _ (by assumption), secret_len, digits_len] <;> omega)) (by decide) rfl rfl (fun v17 => ?_)
    refine st (ev_assign rfl) rfl rfl rfl ?_
    refine op_nil ?_
    refine ax_block ?_
    refine ax_then ?_
    refine At.regs (L' := [(0, _), (2, _), (3, _), (4, _), (6, _), (7, _), (8, _), (9, _), (12, _), (13, _), (14, _), (15, _), (16, _), (17, _)]) (.cons rfl (.cons rfl (.cons rfl (.cons rfl (.cons rfl (.cons rfl (.cons rfl (.cons rfl (.cons rfl (.cons rfl (.cons rfl (.cons rfl (.cons rfl (.cons rfl (.nil _))))))))))))))) ?_
    refine cd_region ?_
    refine st (ev_move rfl) rfl rfl rfl ?_
    refine st (ev_add64 rfl rfl (by omega) (by omega)) rfl rfl rfl ?_
    refine st (ev_assign rfl) rfl rfl rfl ?_
    refine op_nil ?_
    refine ax_heq (i := 5) (v' := .own (v17) 5 1 (ints .u8 (tex (fun i => hs.getD i []) (x.1 + 1)))) rfl (by rw [e0]; rfl) ?_
    exact at_again ((x.1 + 1, v17)) (by show x.1 + 1 ≤ 36; omega) (by omega) (.cons rfl (.cons rfl (.cons rfl (.cons rfl (.nil _))))) (.cons rfl (.cons rfl (.nil _))) (.cons rfl (.nil _))
  ·
    obtain ⟨j, u⟩ := x
    dsimp only at hi hc9 htx ⊢
    obtain rfl : j = 36 := by omega
    refine cd_exit ?_
    refine ax_then_exit ?_
    refine ax_then_exit ?_
    refine ax_block_hit ?_
    refine ax_then ?_
    refine At.regs (L' := [(2, _), (3, _)]) (.cons rfl (.cons rfl (.nil _))) ?_
    refine cd_seq ?_
    refine cd_region ?_
    refine st (ev_move rfl) rfl rfl rfl ?_
    refine st_callv has98 rfl (fun w1 sw => rsum_any u (tex (fun i => hs.getD i []) 36) w1 (by rw [htx]; omega) (sw.own_rd (h := 5) rfl)) rfl rfl ?_
    refine st_store_all 2 ty55 rfl rfl rfl rfl (by first | omega | (simp only [List.length_append, List.length_cons, List.length_nil, List.length_set, List.length_replicate, List.length_take, List.length_drop, ints_length, wr_length, sha_len, way_len _ (by assumption), secret_len, digits_len] <;> omega) | rfl) (ints_one _ _) (by first | omega | (simp only [List.length_append, List.length_cons, List.length_nil, List.length_set, List.length_replicate, List.length_take, List.length_drop, ints_length, wr_length, sha_len, way_len _ (by assumption), secret_len, digits_len] <;> omega) | rfl) rfl ?_
    refine op_nil ?_
    refine ax_then ?_
    refine At.regs (L' := [(2, _)]) (.cons rfl (.nil _)) ?_
    refine cd_ret ?_
    refine rt_cell (h0 := 2) (.inl rfl) Try.results97 ty55 rfl rfl rfl (by first | omega | (simp only [List.length_append, List.length_cons, List.length_nil, List.length_set, List.length_replicate, List.length_take, List.length_drop, ints_length, wr_length, sha_len, way_len _ (by assumption), secret_len, digits_len] <;> omega) | rfl) ?_
    exact fun w1 sw => ⟨rfl, sw.gives (.nil _)⟩
set_option maxRecDepth 20000 in
set_option maxHeartbeats 2000000 in
theorem rpublic_any (s : List Int) (l : Int) (w : World) (hl : s.length = 32) : Calls Try.prog 67 #[.agg (ints .u8 (s)).toArray, .int .i64 l] w (PostV w (.agg (ints .u8 (pub s l)).toArray)) := by
  refine calls_at (vs := [.agg (ints .u8 (s)).toArray, .int .i64 l]) (X := []) (H := []) (F := []) 22 Try.func67 rfl rfl rfl (Sat.start0 w) ?_
  refine cd_seq ?_
  refine cd_region ?_
  refine st_box (h := 2) rfl rfl rfl rfl (fun b2 => ?_)
  refine st_alloc (h := 4) ty55 rfl rfl rfl (fun b4 => ?_)
  refine op_nil ?_
  refine ax_then ?_
  refine At.regs (L' := [(1, _), (2, _), (4, _)]) (.cons rfl (.cons rfl (.cons rfl (.nil _)))) ?_
  refine cd_seq ?_
  refine cd_region ?_
  refine st (ev_assign rfl) rfl rfl rfl ?_
  refine at_own_nil 5 55 32 ?_
  refine at_heq (i := 5) (v' := .own (.slice none 0 0) 55 32 (flat [])) rfl rfl ?_
  have hu5 := H32.nil
  refine op_nil ?_
  refine ax_then ?_
  refine At.regs (L' := [(1, _), (2, _), (4, _), (5, _)]) (.cons rfl (.cons rfl (.cons rfl (.cons rfl (.nil _))))) ?_
  refine cd_seq ?_
  refine cd_seq ?_
  refine cd_region ?_
  refine st (ev_assign rfl) rfl rfl rfl ?_
  refine op_nil ?_
  refine ax_then ?_
  refine At.regs (L' := [(1, _), (2, _), (4, _), (5, _), (6, _)]) (.cons rfl (.cons rfl (.cons rfl (.cons rfl (.cons rfl (.nil _)))))) ?_
  refine cd_block ?_
  refine cd_loop (ι := Nat × Value) (fun x => x.1 ≤ 36) (fun x => 36 - x.1)
      (fun x => [(1, .int .i64 l), (2, .pointer (some ⟨b2, 0, none⟩)), (4, .pointer (some ⟨b4, 0, none⟩)), (5, x.2), (6, .int .i64 (x.1 : Int))])
      (fun x => [(2, .blk b2 (.cells (ints .u8 (s)).toArray 55)), (4, .blk b4 (.cells (ints .u8 (List.replicate 32 0)).toArray 55)), (5, .own (x.2) 55 32 (flat (pubs s l x.1)))])
      (fun x => [])
      (0, .slice none 0 0) (by omega) (.cons rfl (.cons rfl (.cons rfl (.cons rfl (.cons rfl (.nil _)))))) (.cons rfl (.cons rfl (.cons rfl (.nil _)))) (.nil _) (fun x hi => ?_)
  have hsu := pubs_h32 s l x.1
  have hsn := pubs_len s l x.1
  have e0 : (x.1 : Int).toNat = x.1 := by omega
  refine cd_seq ?_
  refine cd_seq ?_
  refine cd_region ?_
  refine st (ev_move rfl) rfl rfl rfl ?_
  refine st (ev_lss rfl rfl) rfl rfl rfl ?_
  refine op_nil ?_
  refine ax_then ?_
  refine At.regs (L' := [(1, _), (2, _), (4, _), (5, _), (6, _), (7, _), (8, _)]) (.cons rfl (.cons rfl (.cons rfl (.cons rfl (.cons rfl (.cons rfl (.cons rfl (.nil _)))))))) ?_
  refine cd_if rfl (fun hc8 => ?_) (fun hc8 => ?_)
  ·
    refine cd_skip ?_
    refine ax_then ?_
    refine At.regs (L' := [(1, _), (2, _), (4, _), (5, _), (6, _), (7, _), (8, _)]) (.cons rfl (.cons rfl (.cons rfl (.cons rfl (.cons rfl (.cons rfl (.cons rfl (.nil _)))))))) ?_
    refine cd_seq ?_
    refine cd_block ?_
    refine cd_region ?_
    refine st (ev_move rfl) rfl rfl rfl ?_
    refine st (ld_blk_all (h := 2) ty55 rfl rfl rfl (by first | omega | (simp only [List.length_append, List.length_cons, List.length_nil, List.length_set, List.length_replicate, List.length_take, List.length_drop, ints_length, wr_length, sha_len, way_len _ (by assumption), secret_len, digits_len] <;> omega) | rfl)) rfl rfl rfl ?_
    refine st (ev_move rfl) rfl rfl rfl ?_
    refine st (ev_move rfl) rfl rfl rfl ?_
    refine st_callv has96 rfl (fun w1 sw => rsecret_any s l x.1 w1 hl) rfl rfl ?_
    refine st (ev_move rfl) rfl rfl rfl ?_
    refine st_callv has95 rfl (fun w1 sw => rwalk_any (secret s l x.1) x.1 0 3 w1 (secret_len s l x.1) (by decide)) rfl rfl ?_
    have hwl := walk_len (h := secret s l x.1) x.1 0 3 (secret_len s l x.1)
    refine st_bsh1 (h := 18) Try.underlying22 ty55 rfl (by first | assumption | omega) rfl rfl (fun b18 hu18 => ?_)
    refine st_appendh (h := 5) Try.underlying22 Try.underlying22 ty55 rfl rfl rfl rfl (fun w1 sw => sw.own_rd (h := 18) rfl) (by assumption) (by assumption) (by first | omega | (simp only [List.length_append, List.length_cons, List.length_nil, List.length_set, List.length_replicate, List.length_take, List.length_drop, ints_length, wr_length, sha_len, way_len _ (by assumption), secret_len, digits_len] <;> omega)) (by decide) rfl rfl (fun v19 hu19 => ?_)
    refine st (ev_assign rfl) rfl rfl rfl ?_
    refine op_nil ?_
    refine ax_block ?_
    refine ax_then ?_
    refine At.regs (L' := [(1, _), (2, _), (4, _), (5, _), (6, _), (7, _), (8, _), (11, _), (12, _), (13, _), (14, _), (15, _), (16, _), (17, _), (18, _), (19, _)]) (.cons rfl (.cons rfl (.cons rfl (.cons rfl (.cons rfl (.cons rfl (.cons rfl (.cons rfl (.cons rfl (.cons rfl (.cons rfl (.cons rfl (.cons rfl (.cons rfl (.cons rfl (.cons rfl (.nil _))))))))))))))))) ?_
    refine cd_region ?_
    refine st (ev_move rfl) rfl rfl rfl ?_
    refine st (ev_add64 rfl rfl (by omega) (by omega)) rfl rfl rfl ?_
    refine st (ev_assign rfl) rfl rfl rfl ?_
    refine op_nil ?_
    refine ax_heq (i := 5) (v' := .own (v19) 55 32 (flat (pubs s l (x.1 + 1)))) rfl (by rw [pubs_snoc]) ?_
    exact at_again ((x.1 + 1, v19)) (by show x.1 + 1 ≤ 36; omega) (by omega) (.cons rfl (.cons rfl (.cons rfl (.cons rfl (.cons rfl (.nil _)))))) (.cons rfl (.cons rfl (.cons rfl (.nil _)))) (.nil _)
  ·
    obtain ⟨j, u⟩ := x
    dsimp only at hi hc8 ⊢
    obtain rfl : j = 36 := by omega
    refine cd_exit ?_
    refine ax_then_exit ?_
    refine ax_then_exit ?_
    refine ax_block_hit ?_
    refine ax_then ?_
    refine At.regs (L' := [(4, _), (5, _)]) (.cons rfl (.cons rfl (.nil _))) ?_
    refine cd_seq ?_
    refine cd_region ?_
    refine st (ev_move rfl) rfl rfl rfl ?_
    refine st_callv has97 rfl (fun w1 sw => rends_any u (pubs s l 36) w1 (pubs_h32 s l 36) (pubs_len s l 36) (sw.own_rd (h := 5) rfl)) rfl rfl ?_
    refine at_eq (i := 21) (v' := .agg (ints .u8 (pub s l)).toArray) rfl (by rw [pubs_ends]) ?_
    have hpl : (pub s l).length = 32 := sha_len _
    refine st_store_all 4 ty55 rfl rfl rfl rfl (by first | omega | (simp only [List.length_append, List.length_cons, List.length_nil, List.length_set, List.length_replicate, List.length_take, List.length_drop, ints_length, wr_length, sha_len, way_len _ (by assumption), secret_len, digits_len] <;> omega) | rfl) (ints_one _ _) (by first | omega | (simp only [List.length_append, List.length_cons, List.length_nil, List.length_set, List.length_replicate, List.length_take, List.length_drop, ints_length, wr_length, sha_len, way_len _ (by assumption), secret_len, digits_len] <;> omega) | rfl) rfl ?_
    refine op_nil ?_
    refine ax_then ?_
    refine At.regs (L' := [(4, _)]) (.cons rfl (.nil _)) ?_
    refine cd_ret ?_
    refine rt_cell (h0 := 4) (.inl rfl) Try.results67 ty55 rfl rfl rfl (by first | omega | (simp only [List.length_append, List.length_cons, List.length_nil, List.length_set, List.length_replicate, List.length_take, List.length_drop, ints_length, wr_length, sha_len, way_len _ (by assumption), secret_len, digits_len] <;> omega) | rfl) ?_
    exact fun w1 sw => ⟨rfl, sw.gives (.nil _)⟩
end Go.Proofs.Ytgfnmolbagilmaa
namespace Go.Proofs.Ytgfnmolbagilmaa
open Go Go.RowKit Fw
open Sha
open Ots
set_option linter.unusedVariables false
set_option linter.unusedSimpArgs false
theorem digits_range (m : List Int) (i : Nat) : 0 ≤ (digits m).getD i 0 ∧ (digits m).getD i 0 ≤ 3 := by
  have h : ∀ x, x ∈ digits m → 0 ≤ x ∧ x ≤ 3 := by
    intro x hx
    simp only [Ots.digits, d2, List.mem_append, List.mem_map, List.mem_replicate] at hx
    rcases hx with (⟨c, _, rfl⟩ | ⟨c, _, rfl⟩) | ⟨_, rfl⟩
    · exact dg_range _ _
    · omega
    · omega
  rw [List.getD_eq_getElem?_getD]
  cases e : (digits m)[i]? with
  | none => decide
  | some x => exact h x (List.mem_of_getElem? e)
def recov (m : List Int) (cs : List (List Int)) : List Int := if cs.length = 36 then ends (fun c => walk (cs.getD c []) c ((digits m).getD c 0) 3) else List.replicate 32 0
theorem recov_len (m : List Int) (cs : List (List Int)) : (recov m cs).length = 32 := by
  rw [recov]
  split
  · exact sha_len _
  · simp
theorem at36 (d : List Int) (x : Value) (hl : d.length = 36) : (ints .i64 d ++ [x])[36]? = some x := by
  rw [List.getElem?_append_right (by rw [ints_length, hl]; decide), ints_length, hl]
  rfl
theorem lt36 (d : List Int) (x : Value) (hl : d.length = 36) (i : Nat) (hi : i < 36) : (ints .i64 d ++ [x])[i]? = some (.int .i64 (d.getD i 0)) := by
  rw [List.getElem?_append_left (by rw [ints_length, hl]; exact hi)]
  exact ints_get _ _ _ (by omega)
set_option maxRecDepth 20000 in
set_option maxHeartbeats 2000000 in
theorem rsign_any (s : List Int) (l : Int) (p : Value) (m : List Int) (w : World) (hl : s.length = 32) (hm : m.length ≤ 140737488352000) (h : Rd w p 1 (ints .u8 m)) : Calls Try.prog 73 #[.agg (ints .u8 (s)).toArray, .int .i64 l, p] w (Post (ι := Value) w [] (fun _ => True) (fun v => v) (fun v => [(0, .own (v) 55 32 (flat (sign s l m 36)))])) := by
  refine calls_at (vs := [.agg (ints .u8 (s)).toArray, .int .i64 l, p]) (X := []) (H := []) (F := [(2, .sl p 1 (ints .u8 (m)))]) 29 Try.func73 rfl rfl rfl (Sat.rd0 2 h) ?_
  refine cd_seq ?_
  refine cd_region ?_
  refine st_box (h := 3) rfl rfl rfl rfl (fun b3 => ?_)
  refine st (ev_assign rfl) rfl rfl rfl ?_
  refine at_own_nil 6 55 32 ?_
  refine at_heq (i := 6) (v' := .own (.slice none 0 0) 55 32 (flat [])) rfl rfl ?_
  have hu6 := H32.nil
  refine op_nil ?_
  refine ax_then ?_
  refine At.regs (L' := [(1, _), (2, _), (3, _), (6, _)]) (.cons rfl (.cons rfl (.cons rfl (.cons rfl (.nil _))))) ?_
  refine cd_seq ?_
  refine cd_region ?_
  refine st (ev_move rfl) rfl rfl rfl ?_
  refine st_callv has104 rfl (fun w1 sw => rdigits_any p m w1 hm (sw.sl_rd (h := 2) rfl)) rfl rfl ?_
  have hdl0 := digits_len m
  refine st_alloc (h := 7) ty153 rfl rfl rfl (fun b7 => ?_)
  refine st_store_all 7 ty153 rfl rfl rfl rfl (by first | omega | (simp only [List.length_append, List.length_cons, List.length_nil, List.length_set, List.length_replicate, List.length_take, List.length_drop, ints_length, wr_length, sha_len, way_len _ (by assumption), secret_len, digits_len] <;> omega) | rfl) (ints_one _ _) (by first | omega | (simp only [List.length_append, List.length_cons, List.length_nil, List.length_set, List.length_replicate, List.length_take, List.length_drop, ints_length, wr_length, sha_len, way_len _ (by assumption), secret_len, digits_len] <;> omega) | rfl) rfl ?_
  refine op_nil ?_
  refine ax_then ?_
  refine At.regs (L' := [(1, _), (3, _), (6, _), (7, _)]) (.cons rfl (.cons rfl (.cons rfl (.cons rfl (.nil _))))) ?_
  refine cd_seq ?_
  refine at_freeze_blk (h := 3) (H' := [(7, _)]) 3 rfl (.cons rfl (.nil _)) rfl ?_
  refine at_freeze_blk (h := 7) (H' := []) 7 rfl (.nil _) rfl ?_
  refine cd_region ?_
  refine st (ev_assign rfl) rfl rfl rfl ?_
  refine at_own_nil 8 55 32 ?_
  refine at_heq (i := 8) (v' := .own (.slice none 0 0) 55 32 (flat [])) rfl rfl ?_
  have hu8 := H32.nil
  refine op_nil ?_
  refine ax_then ?_
  refine At.regs (L' := [(1, _), (3, _), (6, _), (7, _), (8, _)]) (.cons rfl (.cons rfl (.cons rfl (.cons rfl (.cons rfl (.nil _)))))) ?_
  refine cd_seq ?_
  refine cd_seq ?_
  refine cd_region ?_
  refine st (ev_assign rfl) rfl rfl rfl ?_
  refine op_nil ?_
  refine ax_then ?_
  refine At.regs (L' := [(1, _), (3, _), (6, _), (7, _), (8, _), (9, _)]) (.cons rfl (.cons rfl (.cons rfl (.cons rfl (.cons rfl (.cons rfl (.nil _))))))) ?_
  refine cd_block ?_
  have hdl := digits_len m
  refine cd_loop (ι := Nat × Value) (fun x => x.1 ≤ 36) (fun x => 36 - x.1)
      (fun x => [(1, .int .i64 l), (3, .pointer (some ⟨b3, 0, none⟩)), (7, .pointer (some ⟨b7, 0, none⟩)), (8, x.2), (9, .int .i64 (x.1 : Int))])
      (fun x => [(8, .own (x.2) 55 32 (flat (sign s l m x.1)))])
      (fun x => [(3, .mem b3 0 (ints .u8 s)), (7, .mem b7 0 (ints .i64 (digits m)))])
      (0, .slice none 0 0) (by omega) (.cons rfl (.cons rfl (.cons rfl (.cons rfl (.cons rfl (.nil _)))))) (.cons rfl (.nil _)) (.cons rfl (.cons rfl (.nil _))) (fun x hi => ?_)
  have hsu := sign_h32 s l m x.1
  have hsn := sign_len s l m x.1
  have e0 : 0 + (x.1 : Int).toNat * 1 = x.1 := by omega
  have hdl := digits_len m
  refine cd_seq ?_
  refine cd_seq ?_
  refine cd_region ?_
  refine st (ev_move rfl) rfl rfl rfl ?_
  refine st (ev_lss rfl rfl) rfl rfl rfl ?_
  refine op_nil ?_
  refine ax_then ?_
  refine At.regs (L' := [(1, _), (3, _), (7, _), (8, _), (9, _), (12, _), (13, _)]) (.cons rfl (.cons rfl (.cons rfl (.cons rfl (.cons rfl (.cons rfl (.cons rfl (.nil _)))))))) ?_
  refine cd_if rfl (fun hc13 => ?_) (fun hc13 => ?_)
  ·
    refine cd_skip ?_
    refine ax_then ?_
    refine At.regs (L' := [(1, _), (3, _), (7, _), (8, _), (9, _), (12, _), (13, _)]) (.cons rfl (.cons rfl (.cons rfl (.cons rfl (.cons rfl (.cons rfl (.cons rfl (.nil _)))))))) ?_
    refine cd_seq ?_
    refine cd_block ?_
    refine cd_mix hmix ?_
    refine mx (i := 0) rfl (by decide +kernel) (by decide +kernel) (by decide +kernel) rfl (fun w0 => ev_move rfl) rfl rfl (Sub.refl _) ?_
    refine mx (i := 1) rfl (by decide +kernel) (by decide +kernel) (by decide +kernel) rfl (fun w0 => ld_mem_all (h := 3) ty55 rfl rfl rfl (by first | omega | (simp only [List.length_append, List.length_cons, List.length_nil, List.length_set, List.length_replicate, List.length_take, List.length_drop, ints_length, wr_length, sha_len, way_len _ (by assumption), secret_len, digits_len] <;> omega) | rfl)) rfl rfl (Sub.refl _) ?_
    refine mx (i := 2) rfl (by decide +kernel) (by decide +kernel) (by decide +kernel) rfl (fun w0 => ev_move rfl) rfl rfl (Sub.refl _) ?_
    refine mx (i := 3) rfl (by decide +kernel) (by decide +kernel) (by decide +kernel) rfl (fun w0 => ev_move rfl) rfl rfl (Sub.refl _) ?_
    refine mx (i := 5) rfl (by decide +kernel) (by decide +kernel) (by decide +kernel) rfl (fun w0 => ev_move rfl) rfl rfl (Sub.refl _) ?_
    refine mx (i := 6) rfl (by decide +kernel) (by decide +kernel) (by decide +kernel) rfl (fun w0 => ev_move rfl) rfl rfl (Sub.refl _) ?_
    refine mx (i := 7) rfl (by decide +kernel) (by decide +kernel) (by decide +kernel) rfl (fun w0 => ev_indexAddr_arr Try.underlying153 ty3 rfl rfl (by omega) (by omega)) rfl rfl (Sub.refl _) ?_
    refine mx (i := 8) rfl (by decide +kernel) (by decide +kernel) (by decide +kernel) rfl (fun w0 => ld_mem1 (h := 7) ty3 rfl rfl rfl (Nat.zero_add _).symm (ints_get _ _ _ (by first | omega | (simp only [List.length_append, List.length_cons, List.length_nil, List.length_set, List.length_replicate, List.length_take, List.length_drop, ints_length, wr_length, sha_len, way_len _ (by assumption), secret_len, digits_len] <;> omega) | rfl))) rfl rfl (Sub.refl _) ?_
    refine mx_one (i := 4) (by decide +kernel) (Sub.refl _) ?_
    refine wo (i := 4) rfl ?_
    refine st_callv has96 rfl (fun w1 sw => rsecret_any s l x.1 w1 hl) rfl rfl ?_
    refine op_nil ?_
    refine ax_then ?_
    refine mx_one (i := 9) (by decide +kernel) (Sub.refl _) ?_
    refine wo (i := 9) rfl ?_
    refine st_callv has95 rfl (fun w1 sw => rwalk_any (secret s l x.1) x.1 0 ((digits m).getD (0 + (x.1 : Int).toNat * 1) 0) w1 (secret_len s l x.1) (by decide)) rfl rfl ?_
    have hwl := walk_len (h := secret s l x.1) x.1 0 ((digits m).getD (0 + (x.1 : Int).toNat * 1) 0) (secret_len s l x.1)
    refine op_nil ?_
    refine ax_then ?_
    refine mx_one (i := 10) (by decide +kernel) (Sub.refl _) ?_
    refine wo (i := 10) rfl ?_
    refine st_bsh1 (h := 26) Try.underlying22 ty55 rfl (by first | assumption | omega) rfl rfl (fun b26 hu26 => ?_)
    refine op_nil ?_
    refine ax_then ?_
    refine mx_one (i := 11) (by decide +kernel) (Sub.refl _) ?_
    refine wo (i := 11) rfl ?_
    refine st_appendh (h := 8) Try.underlying22 Try.underlying22 ty55 rfl rfl rfl rfl (fun w1 sw => sw.own_rd (h := 26) rfl) (by assumption) (by assumption) (by first | omega | (simp only [List.length_append, List.length_cons, List.length_nil, List.length_set, List.length_replicate, List.length_take, List.length_drop, ints_length, wr_length, sha_len, way_len _ (by assumption), secret_len, digits_len] <;> omega)) (by decide) rfl rfl (fun v27 hu27 => ?_)
    refine op_nil ?_
    refine ax_then ?_
    refine mx (i := 12) rfl (by decide +kernel) (by decide +kernel) (by decide +kernel) rfl (fun w0 => ev_assign rfl) rfl rfl (Sub.refl _) ?_
    refine mx_done (by decide +kernel) (Sub.refl _) ?_
    refine ax_block ?_
    refine ax_then ?_
    refine At.regs (L' := [(1, _), (3, _), (7, _), (8, _), (9, _), (12, _), (13, _), (16, _), (17, _), (18, _), (19, _), (20, _), (21, _), (22, _), (23, _), (24, _), (25, _), (26, _), (27, _)]) (.cons rfl (.cons rfl (.cons rfl (.cons rfl (.cons rfl (.cons rfl (.cons rfl (.cons rfl (.cons rfl (.cons rfl (.cons rfl (.cons rfl (.cons rfl (.cons rfl (.cons rfl (.cons rfl (.cons rfl (.cons rfl (.cons rfl (.nil _)))))))))))))))))))) ?_
    refine cd_region ?_
    refine st (ev_move rfl) rfl rfl rfl ?_
    refine st (ev_add64 rfl rfl (by omega) (by omega)) rfl rfl rfl ?_
    refine st (ev_assign rfl) rfl rfl rfl ?_
    refine op_nil ?_
    refine ax_heq (i := 8) (v' := .own (v27) 55 32 (flat (sign s l m (x.1 + 1)))) rfl (by rw [sign_snoc, e0]) ?_
    exact at_again ((x.1 + 1, v27)) (by show x.1 + 1 ≤ 36; omega) (by omega) (.cons rfl (.cons rfl (.cons rfl (.cons rfl (.cons rfl (.nil _)))))) (.cons rfl (.nil _)) (.cons rfl (.cons rfl (.nil _)))
  ·
    obtain ⟨j, u⟩ := x
    dsimp only at hi hc13 ⊢
    obtain rfl : j = 36 := by omega
    refine cd_exit ?_
    refine ax_then_exit ?_
    refine ax_then_exit ?_
    refine ax_block_hit ?_
    refine ax_then ?_
    refine At.regs (L' := [(8, _)]) (.cons rfl (.nil _)) ?_
    refine cd_seq ?_
    refine cd_region ?_
    refine st (ev_move rfl) rfl rfl rfl ?_
    refine st (ev_assign rfl) rfl rfl rfl ?_
    refine op_nil ?_
    refine ax_then ?_
    refine At.regs (L' := [(6, _)]) (.cons rfl (.nil _)) ?_
    refine cd_ret ?_
    refine rt_tmp (.inl rfl) Try.results73 rfl ?_
    exact fun w1 sw => ⟨_, trivial, rfl, (sw.gives (N := [(8, _)]) (.cons rfl (.nil _))).rn 0⟩
end Go.Proofs.Ytgfnmolbagilmaa
namespace Go.Proofs.Ytgfnmolbagilmaa
open Go Go.RowKit Fw
open Sha
open Ots
set_option linter.unusedVariables false
set_option linter.unusedSimpArgs false
set_option maxRecDepth 20000 in
set_option maxHeartbeats 1000000 in
theorem sigEnd_any (d : List Int) (v : Value) (cs : List (List Int)) (c : Nat) (w : World) (hd : d.length = 36) (hd3 : ∀ i, d.getD i 0 ≤ 3) (hu : H32 cs) (hn : cs.length = 36) (hc : c < 36) (h : Rd w v 32 (flat cs)) : Calls Try.prog 129 #[.agg (ints .i64 (d) ++ [v]).toArray, .int .i64 (c : Int)] w (PostV w (.agg (ints .u8 (walk (cs.getD c []) c (d.getD c 0) 3)).toArray)) := by
  have hwl := walk_len (h := cs.getD c []) c (d.getD c 0) 3 (hu.get (by omega))
  refine calls_at (vs := [.agg (ints .i64 (d) ++ [v]).toArray, .int .i64 (c : Int)]) (X := []) (H := []) (F := [(20, .sl v 32 (flat (cs)))]) 16 Try.func129 rfl rfl rfl (Sat.rd0 20 h) ?_
  refine cd_seq ?_
  refine cd_region ?_
  refine st_box (h := 2) rfl rfl rfl rfl (fun b2 => ?_)
  refine st_alloc (h := 4) ty55 rfl rfl rfl (fun b4 => ?_)
  refine op_nil ?_
  refine ax_then ?_
  refine At.regs (L' := [(1, _), (2, _), (4, _)]) (.cons rfl (.cons rfl (.cons rfl (.nil _)))) ?_
  refine cd_seq ?_
  refine cd_open_tail 11 hmix (by decide +kernel) ?_
  refine qt (ev_fieldAddr (b := _) Try.underlying178 (f := _) rfl ty22 (by decide) rfl) rfl rfl rfl ?_
  refine qt (ld_blk1 (h := 2) ty22 rfl rfl rfl (at36 d v hd)) rfl rfl rfl ?_
  refine qt (ev_move rfl) rfl rfl rfl ?_
  refine qt (ev_indexAddr_rdh (h := 20) Try.underlying22 ty55 rfl rfl rfl (by assumption) (by omega) (by omega)) rfl rfl rfl ?_
  refine qt (ld_rdh (h := 20) ty55 rfl rfl rfl (by assumption) (by omega)) rfl rfl rfl ?_
  refine qt_eq (i := 9) (v' := .agg (ints .u8 (cs.getD c [])).toArray) rfl (by rw [Int.toNat_natCast]) ?_
  refine qt (ev_move rfl) rfl rfl rfl ?_
  refine qt (ev_move rfl) rfl rfl rfl ?_
  refine qt (ev_fieldAddr (b := _) Try.underlying178 (f := _) rfl ty153 (by decide) rfl) rfl rfl rfl ?_
  refine qt (ev_indexAddr_arr Try.underlying153 ty3 rfl rfl (by omega) (by omega)) rfl rfl rfl ?_
  refine qt (ld_blk1 (h := 2) ty3 rfl rfl rfl (lt36 d v hd _ (by show 0 + 0 + (c : Int).toNat * 1 < 36; omega))) rfl rfl rfl ?_
  have e0 : 0 + 0 + (c : Int).toNat * 1 = c := by omega
  refine qt_eq (i := 14) (v' := .int .i64 (d.getD c 0)) rfl (by show Value.int .i64 (d.getD (0 + 0 + (c : Int).toNat * 1) 0) = _; rw [e0]) ?_
  have hgc := hu.get (i := c) (by omega)
  refine qt_callv has111 rfl (fun w1 sw => walk_any (cs.getD c []) c (d.getD c 0) 3 w1 hgc (by have := hd3 c; omega)) rfl rfl ?_
  refine qt_end ?_
  refine st_store_all 4 ty55 rfl rfl rfl rfl (by first | omega | (simp only [List.length_append, List.length_cons, List.length_nil, List.length_set, List.length_replicate, List.length_take, List.length_drop, ints_length, wr_length, sha_len, way_len _ (by assumption), secret_len, digits_len, recov_len] <;> omega) | rfl) (ints_one _ _) (by first | omega | (simp only [List.length_append, List.length_cons, List.length_nil, List.length_set, List.length_replicate, List.length_take, List.length_drop, ints_length, wr_length, sha_len, way_len _ (by assumption), secret_len, digits_len, recov_len] <;> omega) | rfl) rfl ?_
  refine op_nil ?_
  refine ax_then ?_
  refine At.regs (L' := [(4, _)]) (.cons rfl (.nil _)) ?_
  refine cd_ret ?_
  refine rt_cell (h0 := 4) (.inl rfl) Try.results129 ty55 rfl rfl rfl (by first | omega | (simp only [List.length_append, List.length_cons, List.length_nil, List.length_set, List.length_replicate, List.length_take, List.length_drop, ints_length, wr_length, sha_len, way_len _ (by assumption), secret_len, digits_len, recov_len] <;> omega) | rfl) ?_
  exact fun w1 sw => ⟨rfl, sw.gives (.nil _)⟩
def gS (m : List Int) (cs : List (List Int)) (c : Nat) : List Int := if c < 36 then walk (cs.getD c []) c ((Ots.digits m).getD c 0) 3 else List.replicate 32 0
theorem gS_len (m : List Int) {cs : List (List Int)} (hu : H32 cs) (hn : cs.length = 36) (i : Nat) : (gS m cs i).length = 32 := by
  rw [gS]
  split
  · exact walk_len _ _ _ (hu.get (by omega))
  · simp
theorem gS_ends (m : List Int) {cs : List (List Int)} (hn : cs.length = 36) : ends (gS m cs) = recov m cs := by
  rw [recov, if_pos hn]
  exact ends_congr fun i hi => by rw [gS, if_pos hi]
set_option maxRecDepth 20000 in
set_option maxHeartbeats 2000000 in
theorem recover_any (p q : Value) (m : List Int) (cs : List (List Int)) (w : World) (hm : m.length ≤ 140737488352000) (hu : H32 cs) (hcl : cs.length ≤ 140737488352000) (h : Rd w p 1 (ints .u8 m)) (h' : Rd w q 32 (flat cs)) : Calls Try.prog 116 #[p, q] w (PostV w (.tuple #[.agg (ints .u8 (recov m cs)).toArray, .bool (decide (cs.length = 36))])) := by
  refine calls_at (vs := [p, q]) (X := []) (H := []) (F := [(1, .sl q 32 (flat (cs))), (0, .sl p 1 (ints .u8 (m)))]) 16 Try.func116 rfl rfl rfl ((Sat.rd0 0 h).more 1 h') ?_
  refine cd_seq ?_
  refine cd_region ?_
  refine st_alloc (h := 4) ty55 rfl rfl rfl (fun b4 => ?_)
  refine st (ev_assign rfl) rfl rfl rfl ?_
  refine op_nil ?_
  refine ax_then ?_
  refine At.regs (L' := [(0, _), (1, _), (4, _), (5, _)]) (.cons rfl (.cons rfl (.cons rfl (.cons rfl (.nil _))))) ?_
  refine cd_seq ?_
  refine cd_seq ?_
  refine cd_region ?_
  refine st (ev_move rfl) rfl rfl rfl ?_
  refine st (ev_len_rdh (h := 1) Try.underlying22 rfl rfl (by assumption)) rfl rfl rfl ?_
  refine st (ev_neq rfl rfl) rfl rfl rfl ?_
  refine op_nil ?_
  refine ax_then ?_
  refine At.regs (L' := [(0, _), (1, _), (4, _), (5, _), (8, _)]) (.cons rfl (.cons rfl (.cons rfl (.cons rfl (.cons rfl (.nil _)))))) ?_
  refine cd_if rfl (fun hc8 => ?_) (fun hc8 => ?_)
  ·
    refine cd_seq ?_
    refine cd_region ?_
    refine st (ev_build_array ty55 rfl ty5 rfl rfl) rfl rfl rfl ?_
    refine st_store_all 4 ty55 rfl rfl rfl rfl (by first | omega | (simp only [List.length_append, List.length_cons, List.length_nil, List.length_set, List.length_replicate, List.length_take, List.length_drop, ints_length, wr_length, sha_len, way_len _ (by assumption), secret_len, digits_len, recov_len] <;> omega) | rfl) (ints_one _ _) (by first | omega | (simp only [List.length_append, List.length_cons, List.length_nil, List.length_set, List.length_replicate, List.length_take, List.length_drop, ints_length, wr_length, sha_len, way_len _ (by assumption), secret_len, digits_len, recov_len] <;> omega) | rfl) rfl ?_
    refine st (ev_assign rfl) rfl rfl rfl ?_
    refine op_nil ?_
    refine ax_then ?_
    refine At.regs (L' := [(0, _), (1, _), (4, _), (5, _)]) (.cons rfl (.cons rfl (.cons rfl (.cons rfl (.nil _))))) ?_
    refine cd_ret ?_
    refine ax_then_ret ?_
    refine rt_cell_tmp (h0 := 4) (.inl rfl) Try.results116 ty55 rfl rfl rfl (by first | omega | (simp only [List.length_append, List.length_cons, List.length_nil, List.length_set, List.length_replicate, List.length_take, List.length_drop, ints_length, wr_length, sha_len, way_len _ (by assumption), secret_len, digits_len, recov_len] <;> omega) | rfl) rfl ?_
    exact fun w1 sw => ⟨by rw [recov, if_neg (by omega), decide_eq_false (by omega)], sw.gives (.nil _)⟩
  ·
    have hn : cs.length = 36 := by omega
    refine cd_skip ?_
    refine ax_then ?_
    refine At.regs (L' := [(0, _), (1, _), (4, _), (5, _)]) (.cons rfl (.cons rfl (.cons rfl (.cons rfl (.nil _))))) ?_
    refine cd_seq ?_
    refine cd_region ?_
    refine st (ev_move rfl) rfl rfl rfl ?_
    refine st_callv has110 rfl (fun w1 sw => digits_any p m w1 hm (sw.sl_rd (h := 0) rfl)) rfl rfl ?_
    refine st (ev_move rfl) rfl rfl rfl ?_
    refine st (ev_build_struct ty178 rfl pl178 rfl ((fill_put (i := 0) (off := 0) (n := 36) (vs := ints .i64 (Ots.digits m)) rfl rfl (by rw [ints_length, digits_len]) (Nat.le_of_ble_eq_true rfl)).trans ((fill_put (i := 1) (off := 36) (n := 1) (vs := [q]) rfl (by obtain ⟨_, _, _, rfl, _⟩ := h'; rfl) rfl (by rw [wr_length (by rw [ints_length, digits_len]; exact Nat.le_of_ble_eq_true rfl)]; exact Nat.le_of_ble_eq_true rfl)).trans fill_nil))) rfl rfl rfl ?_
    refine at_eq (i := 13) (v' := .agg (ints .i64 (Ots.digits m) ++ [q]).toArray) rfl (congrArg (fun x => Value.agg (List.toArray x)) (put_last (by rw [ints_length, digits_len]) rfl)) ?_
    refine st (ev_func rfl rfl) rfl rfl rfl ?_
    refine st_callv has105 rfl (fun w1 sw => ends_any 129 has129 [.agg (ints .i64 (Ots.digits m) ++ [q]).toArray] [] q cs (gS m cs) (gS_len m hu hn) w1 (sw.sl_rd (h := 1) rfl) (fun w2 i hi hr => by rw [gS, if_pos hi]; exact sigEnd_any (Ots.digits m) q cs i w2 (digits_len m) (fun i => (digits_range m i).2) hu hn hi hr)) rfl rfl ?_
    refine at_eq (i := 15) (v' := .agg (ints .u8 (recov m cs)).toArray) rfl (by rw [gS_ends m (by omega)]) ?_
    have hrl := recov_len m cs
    refine st_store_all 4 ty55 rfl rfl rfl rfl (by first | omega | (simp only [List.length_append, List.length_cons, List.length_nil, List.length_set, List.length_replicate, List.length_take, List.length_drop, ints_length, wr_length, sha_len, way_len _ (by assumption), secret_len, digits_len, recov_len] <;> omega) | rfl) (ints_one _ _) (by first | omega | (simp only [List.length_append, List.length_cons, List.length_nil, List.length_set, List.length_replicate, List.length_take, List.length_drop, ints_length, wr_length, sha_len, way_len _ (by assumption), secret_len, digits_len, recov_len] <;> omega) | rfl) rfl ?_
    refine st (ev_assign rfl) rfl rfl rfl ?_
    refine op_nil ?_
    refine ax_then ?_
    refine At.regs (L' := [(4, _), (5, _)]) (.cons rfl (.cons rfl (.nil _))) ?_
    refine cd_ret ?_
    refine rt_cell_tmp (h0 := 4) (.inl rfl) Try.results116 ty55 rfl rfl rfl (by first | omega | (simp only [List.length_append, List.length_cons, List.length_nil, List.length_set, List.length_replicate, List.length_take, List.length_drop, ints_length, wr_length, sha_len, way_len _ (by assumption), secret_len, digits_len, recov_len] <;> omega) | rfl) rfl ?_
    exact fun w1 sw => ⟨by rw [decide_eq_true (by omega)], sw.gives (.nil _)⟩
end Go.Proofs.Ytgfnmolbagilmaa
namespace Go.Proofs.Ytgfnmolbagilmaa
open Go Go.RowKit Fw
open Sha
open Ots
set_option linter.unusedVariables false
set_option linter.unusedSimpArgs false
theorem recov_sign (s : List Int) (l : Int) (m : List Int) : recov m (sign s l m 36) = pub s l := by
  rw [recov, if_pos (sign_len _ _ _ _)]
  refine ends_congr fun i hi => ?_
  have e1 : (sign s l m 36).getD i [] = walk (secret s l i) i 0 ((Ots.digits m).getD i 0) := by
    rw [sign, List.getD_eq_getElem?_getD, List.getElem?_map, List.getElem?_range hi]
    rfl
  have hr := digits_range m i
  rw [e1]
  generalize (Ots.digits m).getD i 0 = d at *
  obtain ⟨n, rfl⟩ := Int.eq_ofNat_of_zero_le hr.1
  have a1 : (max (0 : Int) 0).toNat = 0 := rfl
  have a2 : (min (n : Int) 3 - max (0 : Int) 0).toNat = n := by omega
  have a3 : (max (n : Int) 0).toNat = n := by omega
  have a4 : (min (3 : Int) 3 - max (n : Int) 0).toNat = 3 - n := by omega
  have a5 : (min (3 : Int) 3 - max (0 : Int) 0).toNat = 3 := rfl
  rw [walk, walk, walk, a1, a2, a3, a4, a5]
  have := way_add i (secret s l i) 0 n (3 - n)
  rw [Nat.zero_add, show n + (3 - n) = 3 by omega] at this
  exact this
end Go.Proofs.Ytgfnmolbagilmaa

namespace Go.Proofs.Ytgfnmolbagilmaa.Ky
open Go Fw Sha Ots Mk Go.Proofs.Ytgfnmolbagilmaa
set_option linter.unusedSimpArgs false
set_option linter.unusedVariables false
def leaves (s : List Int) (n : Nat) : List (List Int) := (List.range n).map fun (l : Nat) => pub s l
theorem leaves_snoc (s : List Int) (n : Nat) : leaves s (n + 1) = leaves s n ++ [pub s n] := by simp [leaves, List.range_succ]
theorem leaves_len (s : List Int) (n : Nat) : (leaves s n).length = n := by simp [leaves]
theorem leaves_h32 (s : List Int) (n : Nat) : H32 (leaves s n) := fun h hh => by
  simp only [leaves, List.mem_map] at hh
  obtain ⟨c, _, rfl⟩ := hh
  exact sha_len _
theorem leaves_get (s : List Int) {n i : Nat} (hi : i < n) : (leaves s n).getD i [] = pub s i := by
  rw [leaves, List.getD_eq_getElem?_getD, List.getElem?_map, List.getElem?_range hi]
  rfl
def named (r : List Int) : List Int := sha ([4] ++ r)
theorem named_len (r : List Int) : (named r).length = 32 := sha_len _
def keyPub (s : List Int) : List Int := named (root (leaves s 16))
theorem keyPub_len (s : List Int) : (keyPub s).length = 32 := sha_len _
def isSig (leaf : Int) (cs ps : List (List Int)) : Prop := 0 ≤ leaf ∧ leaf < 16 ∧ cs.length = 36 ∧ ps.length = 4
instance (leaf : Int) (cs ps : List (List Int)) : Decidable (isSig leaf cs ps) := by unfold isSig; infer_instance
def verP (p m : List Int) (leaf : Int) (cs ps : List (List Int)) : Prop := isSig leaf cs ps ∧ named (up (recov m cs) leaf ps) = p
instance (p m : List Int) (leaf : Int) (cs ps : List (List Int)) : Decidable (verP p m leaf cs ps) := by unfold verP; infer_instance
def clamp (u : Int) : Int := min (max u 0) 16
/-- each leaf's way leads to the key's name -/
theorem way_up (s : List Int) {n : Nat} (hn : n < 16) : (path (leaves s 16) n).length = 4 ∧ named (up (pub s n) n (path (leaves s 16) n)) = keyPub s := by
  have h := up_root 4 (leaves s 16) n (leaves_len s 16) hn
  rw [leaves_get s hn] at h
  exact ⟨h.1, by rw [h.2]; rfl⟩
theorem ver_sign (s : List Int) (m : List Int) {n : Nat} (hn : n < 16) : verP (keyPub s) m n (sign s n m 36) (path (leaves s 16) n) := by
  refine ⟨⟨by omega, by omega, sign_len _ _ _ _, (way_up s hn).1⟩, ?_⟩
  rw [recov_sign]
  exact (way_up s hn).2
/-- the cells of a key: its seed, what it holds, how many are used -/
def cells (s : List Int) (v : Value) (n : Int) : List Value := ints .u8 s ++ [v, .int .i64 n]
/-- the reference's cells of a key -/
def rcells (s : List Int) (v : Value) (p : List Int) (n : Int) : List Value := ints .u8 s ++ ([v] ++ (ints .u8 p ++ [.int .i64 n]))
theorem rcells_len {s p : List Int} (hl : s.length = 32) (hp : p.length = 32) (v : Value) (n : Int) : (rcells s v p n).length = 66 := by simp [rcells, hl, hp, ints_length]
theorem rcells_seed {s p : List Int} (hl : s.length = 32) (v : Value) (n : Int) : ((rcells s v p n).drop 0).take 32 = ints .u8 s := by
  rw [List.drop_zero, rcells, List.take_left' (by rw [ints_length, hl])]
theorem rcells_32 {s p : List Int} (hl : s.length = 32) (v : Value) (n : Int) : (rcells s v p n)[32]? = some v := by
  rw [rcells, List.getElem?_append_right (by rw [ints_length, hl]; decide), ints_length, hl]; rfl
theorem rcells_pub {s p : List Int} (hl : s.length = 32) (hp : p.length = 32) (v : Value) (n : Int) : ((rcells s v p n).drop 33).take 32 = ints .u8 p := by
  rw [rcells, List.drop_append, List.drop_eq_nil_of_le (by rw [ints_length, hl]; decide), ints_length, hl, List.nil_append, show 33 - 32 = 1 from rfl, List.singleton_append, List.drop_succ_cons, List.drop_zero, List.take_left' (by rw [ints_length, hp])]
theorem rcells_65 {s p : List Int} (hl : s.length = 32) (hp : p.length = 32) (v : Value) (n : Int) : (rcells s v p n)[65]? = some (.int .i64 n) := by
  rw [rcells, List.getElem?_append_right (by rw [ints_length, hl]; decide), ints_length, hl, List.getElem?_append_right (by simp), List.getElem?_append_right (by simp [ints_length, hp]), ints_length, hp]; rfl
theorem rcells_set32 {s p : List Int} (hl : s.length = 32) (v v' : Value) (n : Int) : (rcells s v p n).set 32 v' = rcells s v' p n := by
  rw [rcells, List.set_append_right _ _ (by rw [ints_length, hl]; decide), ints_length, hl]; rfl
theorem rcells_set65 {s p : List Int} (hl : s.length = 32) (hp : p.length = 32) (v : Value) (n n' : Int) : (rcells s v p n).set 65 (.int .i64 n') = rcells s v p n' := by
  rw [rcells, List.set_append_right _ _ (by rw [ints_length, hl]; decide), ints_length, hl, List.set_append_right _ _ (by simp), List.set_append_right _ _ (by simp [ints_length, hp]), ints_length, hp]; rfl
theorem rcells_wr {s p q : List Int} (hl : s.length = 32) (hp : p.length = 32) (hq : q.length = 32) (v : Value) (n : Int) : wr (rcells s v p n) 33 (ints .u8 q) = rcells s v q n := by
  have h1 : (ints .u8 s ++ [v]).length = 33 := by simp [hl, ints_length]
  have e : ∀ r, rcells s v r n = (ints .u8 s ++ [v]) ++ (ints .u8 r ++ [.int .i64 n]) := fun r => by simp [rcells]
  rw [e p, e q, wr, List.take_left' h1, ints_length, hq, List.drop_append, List.drop_eq_nil_of_le (by omega), h1, List.nil_append, List.drop_left' (by rw [ints_length, hp])]
  simp
end Go.Proofs.Ytgfnmolbagilmaa.Ky

namespace Go.Proofs.Ytgfnmolbagilmaa.Fw
open Go Go.RowKit Go.Proofs.Ytgfnmolbagilmaa
theorem Sat.fmap {w0 w : World} {X : List Nat} {H : List (Nat × Ent)} {F : List (Nat × FE)} (sw : Sat w0 X H F w) {h sz sz' : Nat} {v v' : Value} {l l' : List Value} (h' : Nat) (hh : lk F h = some (.sl v sz l)) (hR : ∀ w, Rd w v sz l → Rd w v' sz' l') (hB : ∀ b, b ∈ blkOf v' → b ∈ blkOf v) (hl : l = [] → l' = []) : Sat w0 X H ((h', .sl v' sz' l') :: F) w :=
  sw.read h' (hR w (sw.sl_rd hh)) fun k e hk b hb => (sw.off _ _ _ _ hh hk b hb).elim (fun h => .inl (hl h)) fun h => .inr fun hb' => h (hB b hb')
theorem at_fmap {K : Act → World → Prop} {E : Env} {L : List (Nat × Value)} {H : List (Nat × Ent)} {F : List (Nat × FE)} {h sz sz' : Nat} {v v' : Value} {l l' : List Value} (h' : Nat) (hh : lk F h = some (.sl v sz l)) (hR : ∀ w, Rd w v sz l → Rd w v' sz' l') (hB : ∀ b, b ∈ blkOf v' → b ∈ blkOf v) (hl : l = [] → l' = [])
    (k : At K E L H ((h', .sl v' sz' l') :: F)) : At K E L H F := fun a w fa sw => k a w fa (sw.fmap h' hh hR hB hl)
theorem blkOf_cut (sz : Nat) (v : Value) (lo hi : Nat) : ∀ b, b ∈ blkOf (cutAt sz v lo hi) → b ∈ blkOf v := by
  intro b hb
  cases v with
  | slice a n c =>
    cases a with
    | none => simp only [cutAt] at hb; split at hb <;> simp [blkOf] at hb
    | some x =>
      have e : ∀ y : Addr, (y.add (lo * sz)).block = y.block := fun y => by unfold Addr.add; split <;> rfl
      simp only [cutAt] at hb
      split at hb
      · exact hb
      · simp only [blkOf, Option.map_some, e] at hb ⊢; exact hb
  | _ => simp [cutAt, blkOf] at hb
end Go.Proofs.Ytgfnmolbagilmaa.Fw
namespace Go.Proofs.Ytgfnmolbagilmaa.Ky
open Go Fw Sha Ots Mk Go.Proofs.Ytgfnmolbagilmaa
set_option linter.unusedSimpArgs false
set_option linter.unusedVariables false
def nil0 : Value := .slice none 0 0
theorem rd_nil0 {w : World} : Rd w nil0 1 (ints .u8 []) := ⟨none, 0, 0, rfl, by simp [ints], Nat.le_refl _, fun _ => rfl, fun x hx => by cases hx⟩
/-- 32 bytes, if there are so many -/
def rawOut (r : List Int) : List Int := if 32 ≤ r.length then r.take 32 else []
def rawRest (r : List Int) : List Int := if 32 ≤ r.length then r.drop 32 else []
def hashOf (r : List Int) : List Int := if 32 ≤ r.length then r.take 32 else List.replicate 32 0
theorem rawOut_len (r : List Int) : (rawOut r).length ≤ 32 := by unfold rawOut; split <;> simp <;> omega
theorem rawRest_len (r : List Int) : (rawRest r).length ≤ r.length := by unfold rawRest; split <;> simp
theorem hashOf_len (r : List Int) : (hashOf r).length = 32 := by unfold hashOf; split <;> simp <;> omega
/-- what is copied over noughts -/
theorem hash_copy (r : List Int) : wr (ints .u8 (List.replicate 32 0)) 0 ((ints .u8 (rawOut r)).take (min (rawOut r).length 32 * 1)) = ints .u8 (hashOf r) := by
  have h := rawOut_len r
  rw [Nat.mul_one, Nat.min_eq_left h, List.take_of_length_le (by rw [ints_length]; exact Nat.le_refl _)]
  by_cases hc : 32 ≤ r.length
  · rw [wr_all (by rw [ints_length, ints_length]; simp [rawOut, hc])]
    simp [rawOut, hashOf, hc]
  · simp [rawOut, hashOf, hc, ints, wr]
/-- a signature's bytes -/
def enc (leaf : Int) (cs ps : List (List Int)) : List Int := [leaf] ++ (cs ++ ps).flatten
end Go.Proofs.Ytgfnmolbagilmaa.Ky

namespace Go.Proofs.Ytgfnmolbagilmaa.Rr
open Go Fw Sha Ky Go.Proofs.Ytgfnmolbagilmaa
set_option linter.unusedSimpArgs false
set_option linter.unusedVariables false
/-- what is left of what is read -/
structure Und (v : Value) (r : List Int) (v' : Value) (r' : List Int) : Prop where
  rd : ∀ w, Rd w v 1 (ints .u8 r) → Rd w v' 1 (ints .u8 r')
  blk : ∀ b, b ∈ blkOf v' → b ∈ blkOf v
  len : r'.length ≤ r.length
  mem : ∀ c, c ∈ r' → c ∈ r
theorem Und.refl (v : Value) (r : List Int) : Und v r v r := ⟨fun _ h => h, fun _ h => h, Nat.le_refl _, fun _ h => h⟩
theorem Und.trans {v v' v'' : Value} {r r' r'' : List Int} (a : Und v r v' r') (b : Und v' r' v'' r'') : Und v r v'' r'' :=
  ⟨fun w h => b.rd w (a.rd w h), fun x h => a.blk x (b.blk x h), Nat.le_trans b.len a.len, fun c h => a.mem c (b.mem c h)⟩
theorem Und.none (v : Value) (r : List Int) : Und v r nil0 [] := ⟨fun _ _ => rd_nil0, fun b h => by simp [blkOf, nil0] at h, Nat.zero_le _, fun c h => by cases h⟩
theorem Und.cut (v : Value) {r : List Int} {k : Nat} (hk : k ≤ r.length) : Und v r (cutAt 1 v k r.length) (r.drop k) :=
  ⟨fun w h => by
    have := h.cuti (lo := k) (hi := r.length) hk (Nat.le_refl _)
    rwa [List.take_of_length_le (by rw [List.length_drop]; exact Nat.le_refl _)] at this, blkOf_cut _ _ _ _, by simp, fun c h => List.mem_of_mem_drop h⟩
theorem Und.nil {v v' : Value} {r r' : List Int} (a : Und v r v' r') (h : ints .u8 r = []) : ints .u8 r' = [] := by
  have e : r.length = 0 := by have := congrArg List.length h; rwa [ints_length] at this
  have := a.len
  have : r' = [] := List.length_eq_zero_iff.1 (by omega)
  rw [this]; rfl
theorem Und.byt {v v' : Value} {r r' : List Int} (a : Und v r v' r') (h : Byt r) : Byt r' := fun c hc => h c (a.mem c hc)
/-- one byte more of a number -/
def acc (u c : Int) (i : Nat) : Int := ior .u64 u (ishl .u64 (IntKind.u64.wrap (iand .u8 c 127)) (7 * (i : Int)))
def numG : Nat → Int → List Int → Option (Int × Nat)
  | _, _, [] => none
  | i, u, c :: r => if i ≥ 9 ∨ (i > 0 ∧ c = 0) then none else if c < 128 then (if acc u c i > 4611686018427387904 then none else some (acc u c i, i + 1)) else numG (i + 1) (acc u c i) r
def numS (r : List Int) : Option (Int × Nat) := numG 0 0 r
def nVal (r : List Int) : Int := match numS r with | some x => x.1 | none => 0
def nRest (r : List Int) : List Int := match numS r with | some x => r.drop x.2 | none => []
def nBad (r : List Int) : Bool := (numS r).isNone
theorem acc_pos (u c : Int) (i : Nat) : 0 ≤ acc u c i := by
  unfold acc ior
  simp only [IntKind.wrap, IntKind.signed, IntKind.bits, Bool.false_and, Bool.false_eq_true, if_false]
  exact Int.emod_nonneg _ (by decide)
theorem numG_spec : ∀ (r : List Int) (i : Nat) (u : Int) (x : Int × Nat), numG i u r = some x → 0 ≤ x.1 ∧ x.1 ≤ 4611686018427387904 ∧ i < x.2 ∧ x.2 ≤ i + r.length ∧ x.2 ≤ 9
  | [], _, _, _, h => by simp [numG] at h
  | c :: r, i, u, x, h => by
    simp only [numG] at h
    split at h
    · cases h
    · next h9 =>
      split at h
      · split at h
        · cases h
        · next hb => cases h; exact ⟨acc_pos _ _ _, by simpa using hb, Nat.lt_succ_self _, by simp, by show i + 1 ≤ 9; omega⟩
      · have := numG_spec r (i + 1) _ x h
        simp only [List.length_cons]
        omega
theorem numS_spec {r : List Int} {x : Int × Nat} (h : numS r = some x) : 0 ≤ x.1 ∧ x.1 ≤ 4611686018427387904 ∧ 0 < x.2 ∧ x.2 ≤ r.length ∧ x.2 ≤ 9 := by
  have := numG_spec r 0 0 x h
  omega
theorem nVal_rng (r : List Int) : 0 ≤ nVal r ∧ nVal r ≤ 4611686018427387904 := by
  unfold nVal
  cases h : numS r with
  | none => exact ⟨Int.le_refl _, by decide⟩
  | some x => have := numS_spec h; exact ⟨this.1, this.2.1⟩
theorem nUnd_ok (v : Value) {r : List Int} {x : Int × Nat} (h : numS r = some x) : Und v r (cutAt 1 v x.2 r.length) (nRest r) := by
  have := numS_spec h
  have e : nRest r = r.drop x.2 := by unfold nRest; rw [h]
  rw [e]
  exact Und.cut v (by omega)
theorem nUnd_no (v : Value) {r : List Int} (h : numS r = none) : Und v r nil0 (nRest r) := by
  have e : nRest r = [] := by unfold nRest; rw [h]
  rw [e]
  exact Und.none v r
theorem nRest_len (r : List Int) : (nRest r).length ≤ r.length := by
  unfold nRest
  split
  · simp
  · exact Nat.zero_le _
theorem nRest_no {r : List Int} (h : nBad r = true) : nRest r = [] := by
  unfold nBad at h
  unfold nRest
  cases e : numS r with
  | none => rfl
  | some x => rw [e] at h; cases h
theorem nVal_no {r : List Int} (h : numS r = none) : nVal r = 0 ∧ nBad r = true ∧ nRest r = [] := by
  refine ⟨by unfold nVal; rw [h], by unfold nBad; rw [h]; rfl, by unfold nRest; rw [h]⟩
theorem nVal_ok {r : List Int} {x : Int × Nat} (h : numS r = some x) : nVal r = x.1 ∧ nBad r = false ∧ nRest r = r.drop x.2 := by
  refine ⟨by unfold nVal; rw [h], by unfold nBad; rw [h]; rfl, by unfold nRest; rw [h]⟩
theorem numG_brk {i : Nat} {u c : Int} {r : List Int} (h : i ≥ 9 ∨ (i > 0 ∧ c = 0)) : numG i u (c :: r) = none := by rw [numG, if_pos h]
theorem numG_big {i : Nat} {u c : Int} {r : List Int} (h : c < 128) (hb : acc u c i > 4611686018427387904) : numG i u (c :: r) = none := by
  rw [numG]
  split
  · rfl
  · first | rfl | rw [if_pos h, if_pos hb]
theorem numG_ok {i : Nat} {u c : Int} {r : List Int} (h : ¬ (i ≥ 9 ∨ (i > 0 ∧ c = 0))) (hc : c < 128) (hb : ¬ acc u c i > 4611686018427387904) : numG i u (c :: r) = some (acc u c i, i + 1) := by rw [numG, if_neg h, if_pos hc, if_neg hb]
theorem numG_go {i : Nat} {u c : Int} {r : List Int} (h : ¬ (i ≥ 9 ∨ (i > 0 ∧ c = 0))) (hc : ¬ c < 128) : numG i u (c :: r) = numG (i + 1) (acc u c i) r := by rw [numG, if_neg h, if_neg hc]
theorem drop_head {r : List Int} {i : Nat} (hi : i < r.length) : r.drop i = r.getD i 0 :: r.drop (i + 1) := by
  rw [List.drop_eq_getElem_cons hi, List.getD_eq_getElem?_getD, List.getElem?_eq_getElem hi]; rfl
def fitsR (r : List Int) (n : Int) : Prop := 0 ≤ n ∧ n ≤ (r.length : Nat)
instance (r : List Int) (n : Int) : Decidable (fitsR r n) := by unfold fitsR; infer_instance
def rOut (r : List Int) (n : Int) : List Int := if fitsR r n then r.take n.toNat else []
def rRest (r : List Int) (n : Int) : List Int := if fitsR r n then r.drop n.toNat else []
def rBad (r : List Int) (n : Int) : Bool := !decide (fitsR r n)
theorem rUnd_ok (v : Value) {r : List Int} {n : Int} (h : fitsR r n) : Und v r (cutAt 1 v n.toNat r.length) (rRest r n) := by
  rw [rRest, if_pos h]
  exact Und.cut v (by have := h.2; omega)
theorem rUnd_no (v : Value) {r : List Int} {n : Int} (h : ¬ fitsR r n) : Und v r nil0 (rRest r n) := by
  rw [rRest, if_neg h]
  exact Und.none v r
theorem rOut_32 (r : List Int) : rOut r 32 = rawOut r ∧ rRest r 32 = rawRest r ∧ rBad r 32 = decide (r.length < 32) := by
  have e : (32 : Int).toNat = 32 := rfl
  unfold rOut rRest rBad rawOut rawRest
  rw [e]
  by_cases h : 32 ≤ r.length
  · have hf : fitsR r 32 := ⟨by decide, by omega⟩
    simp only [if_pos hf, if_pos h, decide_eq_true hf]
    exact ⟨trivial, trivial, (decide_eq_false (by omega)).symm⟩
  · have hf : ¬ fitsR r 32 := fun hh => by have := hh.2; omega
    simp only [if_neg hf, if_neg h, decide_eq_false hf]
    exact ⟨trivial, trivial, (decide_eq_true (by omega)).symm⟩
end Go.Proofs.Ytgfnmolbagilmaa.Rr

namespace Go.Proofs.Ytgfnmolbagilmaa.Rr
open Go Fw Sha Ky Go.Proofs.Ytgfnmolbagilmaa
set_option linter.unusedSimpArgs false
set_option linter.unusedVariables false
def encN (u : Nat) : List Int := if h : u < 128 then [(u : Int)] else ((u % 128 + 128 : Nat) : Int) :: encN (u / 128)
termination_by u
decreasing_by omega
theorem encN_lt {u : Nat} (h : u < 128) : encN u = [(u : Int)] := by rw [encN, dif_pos h]
theorem encN_ge {u : Nat} (h : ¬ u < 128) : encN u = ((u % 128 + 128 : Nat) : Int) :: encN (u / 128) := by rw [encN, dif_neg h]
/-- a number, as it is laid -/
def clampN (n : Int) : Nat := (max 0 (min n 4611686018427387904)).toNat
theorem clampN_le (n : Int) : clampN n ≤ 4611686018427387904 := by unfold clampN; omega
theorem clampN_id {n : Int} (h0 : 0 ≤ n) (h1 : n ≤ 4611686018427387904) : (clampN n : Int) = n := by unfold clampN; omega
def num (n : Int) : List Int := encN (clampN n)
def nums (l : List Int) : List Int := l.flatMap num
theorem nums_snoc (l : List Int) (n : Int) : nums (l ++ [n]) = nums l ++ num n := by simp [nums]
theorem encN_len : ∀ (k u : Nat), u < 128 ^ (k + 1) → (encN u).length ≤ k + 1
  | 0, u, h => by rw [encN_lt (by simpa using h)]; simp
  | k + 1, u, h => by
    by_cases h1 : u < 128
    · rw [encN_lt h1]; simp
    · have h2 : u < 128 * 128 ^ (k + 1) := by rw [Nat.pow_succ] at h; omega
      rw [encN_ge h1, List.length_cons]
      have := encN_len k (u / 128) (Nat.div_lt_of_lt_mul h2)
      omega
theorem num_len (n : Int) : (num n).length ≤ 9 := encN_len 8 (clampN n) (by have := clampN_le n; have e : 128 ^ (8 + 1) = 9223372036854775808 := (by decide); omega)
theorem nums_len : ∀ (l : List Int), (nums l).length ≤ 9 * l.length
  | [] => by simp [nums]
  | n :: l => by
    have := nums_len l
    have := num_len n
    show ((n :: l).flatMap num).length ≤ _
    rw [List.flatMap_cons, List.length_append, List.length_cons]
    have e : (l.flatMap num).length = (nums l).length := rfl
    omega
theorem encN_byt : ∀ (k u : Nat), u < k → Byt (encN u)
  | 0, _, h => by omega
  | k + 1, u, h => by
    by_cases h1 : u < 128
    · rw [encN_lt h1]; intro c hc; simp at hc; omega
    · rw [encN_ge h1]
      intro c hc
      rcases List.mem_cons.1 hc with rfl | hc
      · have := Nat.mod_lt u (show 128 > 0 by decide); omega
      · exact encN_byt k (u / 128) (by omega) c hc
theorem num_byt (n : Int) : Byt (num n) := encN_byt _ _ (Nat.lt_succ_self _)
theorem or128 : ∀ c : Nat, c < 256 → ior .u8 (c : Int) 128 = ((c % 128 + 128 : Nat) : Int) := by decide +kernel
theorem wrap8 (u : Nat) : IntKind.u8.wrap (u : Int) = ((u % 256 : Nat) : Int) := by
  simp only [IntKind.wrap, IntKind.signed, IntKind.bits, Bool.false_and, Bool.false_eq_true, if_false]
  omega
theorem lay8 (u : Nat) : ior .u8 (IntKind.u8.wrap (u : Int)) 128 = ((u % 128 + 128 : Nat) : Int) := by
  rw [wrap8, or128 _ (Nat.mod_lt _ (by decide))]
  congr 2
  omega
theorem ofInt64 {a : Nat} (h : a < 18446744073709551616) : (BitVec.ofInt IntKind.u64.bits (a : Int)).toNat = a := by
  show (BitVec.ofInt 64 (a : Int)).toNat = a
  rw [BitVec.toNat_ofInt]
  omega
theorem wrapn64 (n : Nat) (h : n < 18446744073709551616) : IntKind.u64.wrap (n : Int) = n := Fw.wrapu64_id (by omega) (by omega)
theorem and127_64 (u : Nat) (h : u < 18446744073709551616) : iand .u64 (u : Int) 127 = ((u % 128 : Nat) : Int) := by
  have e : (BitVec.ofInt IntKind.u64.bits 127).toNat = 127 := by decide
  rw [iand, BitVec.toNat_and, ofInt64 h, e, show (127 : Nat) = 2 ^ 7 - 1 from rfl, Nat.and_two_pow_sub_one_eq_mod]
  exact wrapn64 _ (by omega)
theorem shr7 (u : Nat) : ishr .u64 (u : Int) 7 = ((u / 128 : Nat) : Int) := by
  have e : (2 : Int) ^ (min (7 : Int).toNat IntKind.u64.bits) = ((128 : Nat) : Int) := by decide
  rw [ishr, e, Int.fdiv_eq_ediv_of_nonneg _ (by decide)]
  rfl
theorem lay8r (u : Nat) (h : u < 18446744073709551616) : ior .u8 (IntKind.u8.wrap (iand .u64 (u : Int) 127)) 128 = ((u % 128 + 128 : Nat) : Int) := by
  rw [and127_64 u h, lay8, Nat.mod_mod]
theorem low8 {u : Nat} (h : u < 128) : IntKind.u8.wrap (u : Int) = (u : Int) := by rw [wrap8, Nat.mod_eq_of_lt (by omega)]
theorem and127_8 : ∀ c : Nat, c < 256 → iand .u8 (c : Int) 127 = ((c % 128 : Nat) : Int) := by decide +kernel
theorem acc_nat {u c i : Nat} (hu : u < 128 ^ i) (hc : c < 256) (hi : i ≤ 8) (ht : u + (c % 128) * 128 ^ i < 18446744073709551616) : acc (u : Int) (c : Int) i = ((u + (c % 128) * 128 ^ i : Nat) : Int) := by
  have e7 : (128 : Nat) ^ i = 2 ^ (7 * i) := by rw [Nat.pow_mul]
  have hz : (c % 128) * 128 ^ i < 18446744073709551616 := Nat.lt_of_le_of_lt (Nat.le_add_left _ _) ht
  have h1 : ishl .u64 (IntKind.u64.wrap (iand .u8 (c : Int) 127)) (7 * (i : Int)) = (((c % 128) * 128 ^ i : Nat) : Int) := by
    rw [and127_8 c hc, wrapn64 _ (by omega), ishl]
    have e : min (7 * (i : Int)).toNat IntKind.u64.bits = 7 * i := by
      have : IntKind.u64.bits = 64 := rfl
      omega
    rw [e]
    have e2 : ((c % 128 : Nat) : Int) * 2 ^ (7 * i) = (((c % 128) * 128 ^ i : Nat) : Int) := by rw [e7]; push_cast; rfl
    rw [e2]
    exact wrapn64 _ hz
  rw [acc, h1, ior, BitVec.toNat_or, ofInt64 (by omega), ofInt64 hz]
  have h2 : u ||| (c % 128) * 128 ^ i = u + (c % 128) * 128 ^ i := by
    rw [e7, Nat.or_comm, Nat.mul_comm, Nat.add_comm, ← Nat.two_pow_add_eq_or_of_lt (by rw [← e7]; exact hu)]
  rw [h2]
  exact wrapn64 _ ht
/-- what was laid is read -/
theorem numG_enc : ∀ (k n i u : Nat) (t : List Int), n < k → u < 128 ^ i → (i = 0 ∨ 0 < n) → u + n * 128 ^ i ≤ 4611686018427387904 → numG i u (encN n ++ t) = some (((u + n * 128 ^ i : Nat) : Int), i + (encN n).length)
  | 0, _, _, _, _, h, _, _, _ => by omega
  | k + 1, n, i, u, t, hk, hu, h0, hm => by
    have hi : i ≤ 8 := by
      rcases Nat.lt_or_ge 8 i with h8 | h8
      · exfalso
        have hn : 0 < n := by omega
        have h1 : 128 ^ 9 ≤ 128 ^ i := Nat.pow_le_pow_right (by decide) h8
        have e : 128 ^ 9 = 9223372036854775808 := by decide
        have h2 : 1 * 128 ^ i ≤ n * 128 ^ i := Nat.mul_le_mul_right _ hn
        omega
      · exact h8
    by_cases h1 : n < 128
    · have e : n % 128 = n := Nat.mod_eq_of_lt h1
      have ha := acc_nat (c := n) hu (by omega) hi (by rw [e]; omega)
      rw [e] at ha
      rw [encN_lt h1, List.singleton_append, numG_ok (by omega) (by omega) (by rw [ha]; omega), ha]
      simp
    · have e : (n % 128 + 128) % 128 = n % 128 := by omega
      have hp : 0 < 128 ^ i := Nat.pow_pos (by decide)
      have hle : n % 128 * 128 ^ i ≤ n * 128 ^ i := Nat.mul_le_mul_right _ (Nat.mod_le _ _)
      have ha := acc_nat (c := n % 128 + 128) hu (by omega) hi (by rw [e]; omega)
      rw [e] at ha
      have hsum : u + n % 128 * 128 ^ i + n / 128 * 128 ^ (i + 1) = u + n * 128 ^ i := by
        have h2 : n % 128 + n / 128 * 128 = n := by omega
        calc u + n % 128 * 128 ^ i + n / 128 * 128 ^ (i + 1) = u + (n % 128 + n / 128 * 128) * 128 ^ i := by rw [Nat.pow_succ, Nat.add_mul]; rw [Nat.mul_comm (128 ^ i) 128, ← Nat.mul_assoc]; omega
          _ = _ := by rw [h2]
      have hlt : u + n % 128 * 128 ^ i < 128 ^ (i + 1) := by
        have h3 : n % 128 + 1 ≤ 128 := by omega
        have h4 : (n % 128 + 1) * 128 ^ i ≤ 128 * 128 ^ i := Nat.mul_le_mul_right _ h3
        rw [Nat.succ_mul] at h4
        rw [Nat.pow_succ, Nat.mul_comm (128 ^ i) 128]
        omega
      have ih := numG_enc k (n / 128) (i + 1) (u + n % 128 * 128 ^ i) t (by omega) hlt (.inr (by omega)) (by rw [hsum]; exact hm)
      rw [encN_ge h1, List.cons_append, numG_go (by omega) (by omega), ha, ih, hsum, List.length_cons]
      congr 2
      omega
theorem numS_num {n : Int} (h0 : 0 ≤ n) (h1 : n ≤ 4611686018427387904) (t : List Int) : numS (num n ++ t) = some (n, (num n).length) := by
  have h := numG_enc (clampN n + 1) (clampN n) 0 0 t (Nat.lt_succ_self _) (by decide) (.inl rfl) (by have := clampN_le n; simpa using this)
  have e : ((0 + clampN n * 128 ^ 0 : Nat) : Int) = n := by rw [Nat.pow_zero, Nat.mul_one, Nat.zero_add]; exact clampN_id h0 h1
  rw [numS, show (0 : Int) = ((0 : Nat) : Int) from rfl, num, h, e, Nat.zero_add]
theorem num_back {n : Int} (h0 : 0 ≤ n) (h1 : n ≤ 4611686018427387904) (t : List Int) : nVal (num n ++ t) = n ∧ nRest (num n ++ t) = t ∧ nBad (num n ++ t) = false := by
  have h := nVal_ok (numS_num h0 h1 t)
  exact ⟨h.1, by rw [h.2.2]; simp, h.2.1⟩
end Go.Proofs.Ytgfnmolbagilmaa.Rr

namespace Go.Proofs.Ytgfnmolbagilmaa
open Go Go.RowKit Fw
set_option linter.unusedVariables false
set_option linter.unusedSimpArgs false
/-- where h stands among the hashes -/
def idx (hs : List (List Int)) (h : List Int) : Int := match (List.range hs.length).find? (fun j => decide (h = hs.getD j [])) with | some j => (j : Int) | none => -1
theorem idx_hit {hs : List (List Int)} {h : List Int} {i : Nat} (hi : i < hs.length) (h1 : ∀ j, j < i → h ≠ hs.getD j []) (h2 : h = hs.getD i []) : idx hs h = i := by
  have : (List.range hs.length).find? (fun j => decide (h = hs.getD j [])) = some i := by
    rw [List.find?_range_eq_some]
    exact ⟨by simpa using h2, by simpa using hi, fun j hj => by simpa using h1 j hj⟩
  rw [idx, this]
theorem idx_miss {hs : List (List Int)} {h : List Int} (h1 : ∀ j, j < hs.length → h ≠ hs.getD j []) : idx hs h = -1 := by
  have : (List.range hs.length).find? (fun j => decide (h = hs.getD j [])) = none := by
    rw [List.find?_eq_none]
    intro j hj
    simpa using h1 j (by simpa using hj)
  rw [idx, this]
theorem idx_neg {hs : List (List Int)} {h : List Int} : ¬ 0 ≤ idx hs h ↔ ∀ j, j < hs.length → h ≠ hs.getD j [] := by
  constructor
  · intro hn j hj
    cases hf : (List.range hs.length).find? (fun j => decide (h = hs.getD j [])) with
    | some k =>
      rw [idx, hf] at hn
      exact absurd (Int.natCast_nonneg k) hn
    | none =>
      have := List.find?_eq_none.1 hf j (by simpa using hj)
      simpa using this
  · intro h1
    rw [idx_miss h1]
    omega
/-- keys that may be -/
def isK (ks : List (List Int)) (need : Int) : Prop := (∀ a, a < ks.length → ¬ 0 ≤ idx (ks.take a) (ks.getD a [])) ∧ 1 ≤ ks.length ∧ ks.length ≤ 4 ∧ 1 ≤ need ∧ need ≤ (ks.length : Int)
instance (ks : List (List Int)) (need : Int) : Decidable (isK ks need) := by unfold isK; infer_instance
set_option maxRecDepth 20000 in
set_option maxHeartbeats 1000000 in
theorem index_any (p : Value) (hs : List (List Int)) (h0 : List Int) (w : World) (hu : H32 hs) (hl : h0.length = 32) (hs0 : hs.length ≤ 140737488352000) (h : Rd w p 32 (flat hs)) : Calls Try.prog 115 #[p, .agg (ints .u8 (h0)).toArray] w (PostV w (.int .i64 (idx hs h0))) := by
  refine calls_at (vs := [p, .agg (ints .u8 (h0)).toArray]) (X := []) (H := []) (F := [(0, .sl p 32 (flat (hs)))]) 19 Try.func115 rfl rfl rfl (Sat.rd0 0 h) ?_
  refine cd_seq ?_
  refine cd_region ?_
  refine st_box (h := 3) rfl rfl rfl rfl (fun b3 => ?_)
  refine st (ev_assign rfl) rfl rfl rfl ?_
  refine op_nil ?_
  refine ax_then ?_
  refine At.regs (L' := [(0, _), (3, _), (4, _)]) (.cons rfl (.cons rfl (.cons rfl (.nil _)))) ?_
  refine cd_seq ?_
  refine cd_seq ?_
  refine cd_region ?_
  refine st (ev_move rfl) rfl rfl rfl ?_
  refine st (ev_len_rdh (h := 0) Try.underlying22 rfl rfl hu) rfl rfl rfl ?_
  refine st (ev_move rfl) rfl rfl rfl ?_
  refine op_nil ?_
  refine ax_then ?_
  refine At.regs (L' := [(0, _), (3, _), (4, _), (7, _), (8, _)]) (.cons rfl (.cons rfl (.cons rfl (.cons rfl (.cons rfl (.nil _)))))) ?_
  refine cd_block ?_
  refine cd_loop (ι := Nat) (fun i => i ≤ hs.length ∧ ∀ j, j < i → h0 ≠ hs.getD j []) (fun i => hs.length - i)
      (fun i => [(0, p), (3, .pointer (some ⟨b3, 0, none⟩)), (7, .int .i64 (hs.length : Nat)), (8, .int .i64 (i : Int))])
      (fun i => [(3, .blk b3 (.cells (ints .u8 h0).toArray 55))])
      (fun i => [(0, .sl p 32 (flat (hs)))])
      0 (⟨by omega, fun j hj => by omega⟩) (.cons rfl (.cons rfl (.cons rfl (.cons rfl (.nil _))))) (.cons rfl (.nil _)) (.cons rfl (.nil _)) (fun i hi => ?_)
  have hi1 := hi.1
  have e0 : (i : Int).toNat = i := by omega
  refine cd_seq ?_
  refine cd_region ?_
  refine st (ev_lss rfl rfl) rfl rfl rfl ?_
  refine op_nil ?_
  refine ax_then ?_
  refine At.regs (L' := [(0, _), (3, _), (7, _), (8, _), (9, _)]) (.cons rfl (.cons rfl (.cons rfl (.cons rfl (.cons rfl (.nil _)))))) ?_
  refine cd_seq ?_
  refine cd_if rfl (fun hc9 => ?_) (fun hc9 => ?_)
  ·
    refine cd_skip ?_
    refine ax_then ?_
    refine At.regs (L' := [(0, _), (3, _), (7, _), (8, _), (9, _)]) (.cons rfl (.cons rfl (.cons rfl (.cons rfl (.cons rfl (.nil _)))))) ?_
    refine cd_seq ?_
    refine cd_block ?_
    refine cd_seq ?_
    refine cd_region ?_
    refine st (ev_move rfl) rfl rfl rfl ?_
    refine st (ev_assign rfl) rfl rfl rfl ?_
    refine op_nil ?_
    refine ax_then ?_
    refine At.regs (L' := [(0, _), (3, _), (5, _), (7, _), (8, _), (9, _), (10, _)]) (.cons rfl (.cons rfl (.cons rfl (.cons rfl (.cons rfl (.cons rfl (.cons rfl (.nil _)))))))) ?_
    refine cd_seq ?_
    refine cd_open hmix (by decide +kernel) ?_
    refine qt (ld_blk_all (h := 3) ty55 rfl rfl rfl (by first | omega | (simp only [List.length_append, List.length_cons, List.length_nil, List.length_set, List.length_replicate, List.length_take, List.length_drop, ints_length, wr_length] <;> omega) | exact H32.get (by assumption) (by omega) | rfl)) rfl rfl rfl ?_
    refine qt (ev_move rfl) rfl rfl rfl ?_
    refine qt (ev_move rfl) rfl rfl rfl ?_
    refine qt (ev_indexAddr_rdh (h := 0) Try.underlying22 ty55 rfl rfl rfl hu (by omega) (by omega)) rfl rfl rfl ?_
    refine qt (ld_rdh (i := (i : Int).toNat) (h := 0) ty55 rfl rfl rfl hu (by omega)) rfl rfl rfl ?_
    refine qt (ev_eql_arr Try.underlying55 ty5 eqg55 rfl rfl (by first | omega | (simp only [List.length_append, List.length_cons, List.length_nil, List.length_set, List.length_replicate, List.length_take, List.length_drop, ints_length, wr_length] <;> omega) | exact H32.get (by assumption) (by omega) | rfl) (by first | omega | (simp only [List.length_append, List.length_cons, List.length_nil, List.length_set, List.length_replicate, List.length_take, List.length_drop, ints_length, wr_length] <;> omega) | exact H32.get (by assumption) (by omega) | rfl)) rfl rfl rfl ?_
    refine qt_end ?_
    refine op_nil ?_
    refine ax_then ?_
    refine At.regs (L' := [(0, _), (3, _), (5, _), (7, _), (8, _), (9, _), (10, _), (11, _), (12, _), (13, _), (14, _), (15, _), (16, _)]) (.cons rfl (.cons rfl (.cons rfl (.cons rfl (.cons rfl (.cons rfl (.cons rfl (.cons rfl (.cons rfl (.cons rfl (.cons rfl (.cons rfl (.cons rfl (.nil _)))))))))))))) ?_
    refine cd_if rfl (fun hc16 => ?_) (fun hc16 => ?_)
    ·
      have hit := hc16
      rw [e0] at hit
      refine cd_seq ?_
      refine cd_region ?_
      refine st (ev_move rfl) rfl rfl rfl ?_
      refine st (ev_assign rfl) rfl rfl rfl ?_
      refine op_nil ?_
      refine ax_then ?_
      refine At.regs (L' := [(0, _), (3, _), (4, _), (5, _), (7, _), (8, _), (9, _), (10, _), (11, _), (12, _), (13, _), (14, _), (15, _), (16, _), (17, _)]) (.cons rfl (.cons rfl (.cons rfl (.cons rfl (.cons rfl (.cons rfl (.cons rfl (.cons rfl (.cons rfl (.cons rfl (.cons rfl (.cons rfl (.cons rfl (.cons rfl (.cons rfl (.nil _)))))))))))))))) ?_
      refine cd_ret ?_
      refine ax_block_ret ?_
      refine ax_then_ret ?_
      refine ax_then_ret ?_
      refine ax_block_ret ?_
      refine ax_then_ret ?_
      refine rt_tmp (.inl rfl) Try.results115 rfl ?_
      exact fun w1 sw => ⟨by rw [idx_hit (by omega) hi.2 hit], sw.gives (.nil _)⟩
    ·
      refine cd_skip ?_
      refine ax_block ?_
      refine ax_then ?_
      refine At.regs (L' := [(0, _), (3, _), (5, _), (7, _), (8, _), (9, _), (10, _), (11, _), (12, _), (13, _), (14, _), (15, _), (16, _)]) (.cons rfl (.cons rfl (.cons rfl (.cons rfl (.cons rfl (.cons rfl (.cons rfl (.cons rfl (.cons rfl (.cons rfl (.cons rfl (.cons rfl (.cons rfl (.nil _)))))))))))))) ?_
      refine cd_region ?_
      refine st (ev_add64 rfl rfl (by omega) (by omega)) rfl rfl rfl ?_
      refine st (ev_move rfl) rfl rfl rfl ?_
      refine op_nil ?_
      exact at_again (i + 1) (⟨by omega, fun j hj => (Nat.lt_succ_iff_lt_or_eq.1 hj).elim (hi.2 j) (fun e => by subst e; simpa using hc16)⟩) (by omega) (.cons rfl (.cons rfl (.cons rfl (.cons rfl (.nil _))))) (.cons rfl (.nil _)) (.cons rfl (.nil _))
  ·
    obtain rfl : i = hs.length := by omega
    refine cd_exit ?_
    refine ax_then_exit ?_
    refine ax_then_exit ?_
    refine ax_block_hit ?_
    refine ax_then ?_
    refine At.regs (L' := []) (.nil _) ?_
    refine cd_seq ?_
    refine cd_region ?_
    refine st (ev_assign rfl) rfl rfl rfl ?_
    refine op_nil ?_
    refine ax_then ?_
    refine At.regs (L' := [(4, _)]) (.cons rfl (.nil _)) ?_
    refine cd_ret ?_
    refine rt_tmp (.inl rfl) Try.results115 rfl ?_
    exact fun w1 sw => ⟨by rw [idx_miss hi.2], sw.gives (.nil _)⟩
set_option maxRecDepth 20000 in
set_option maxHeartbeats 1000000 in
theorem contains_any (p : Value) (hs : List (List Int)) (h0 : List Int) (w : World) (hu : H32 hs) (hl : h0.length = 32) (hs0 : hs.length ≤ 140737488352000) (h : Rd w p 32 (flat hs)) : Calls Try.prog 89 #[p, .agg (ints .u8 (h0)).toArray] w (PostV w (.bool (decide (0 ≤ idx hs h0)))) := by
  refine calls_at (vs := [p, .agg (ints .u8 (h0)).toArray]) (X := []) (H := []) (F := [(0, .sl p 32 (flat (hs)))]) 9 Try.func89 rfl rfl rfl (Sat.rd0 0 h) ?_
  refine cd_seq ?_
  refine cd_region ?_
  refine st_box (h := 3) rfl rfl rfl rfl (fun b3 => ?_)
  refine st (ev_assign rfl) rfl rfl rfl ?_
  refine op_nil ?_
  refine ax_then ?_
  refine At.regs (L' := [(0, _), (3, _), (4, _)]) (.cons rfl (.cons rfl (.cons rfl (.nil _)))) ?_
  refine cd_seq ?_
  refine cd_region ?_
  refine st (ev_move rfl) rfl rfl rfl ?_
  refine st (ld_blk_all (h := 3) ty55 rfl rfl rfl (by first | omega | (simp only [List.length_append, List.length_cons, List.length_nil, List.length_set, List.length_replicate, List.length_take, List.length_drop, ints_length, wr_length] <;> omega) | exact H32.get (by assumption) (by omega) | rfl)) rfl rfl rfl ?_
  refine st_callv has115 rfl (fun w1 sw => index_any p hs h0 w1 hu hl hs0 (sw.sl_rd (h := 0) rfl)) rfl rfl ?_
  refine st (ev_geq rfl rfl) rfl rfl rfl ?_
  refine st (ev_assign rfl) rfl rfl rfl ?_
  refine op_nil ?_
  refine ax_then ?_
  refine At.regs (L' := [(4, _)]) (.cons rfl (.nil _)) ?_
  refine cd_ret ?_
  refine rt_tmp (.inl rfl) Try.results89 rfl ?_
  exact fun w1 sw => ⟨rfl, sw.gives (.nil _)⟩
theorem takeh {w : World} {v : Value} {hs : List (List Int)} {i : Nat} (h : Rd w v 32 (flat hs)) (hu : H32 hs) (hi : i ≤ hs.length) : Rd w (cutAt 32 v 0 i) 32 (flat (hs.take i)) := by
  have := h.cuth (lo := 0) (hi := i) hu (by omega) hi
  simpa using this
/-- of keys that may be, all but their being unlike -/
def bas (ks : List (List Int)) (need : Int) : Prop := 1 ≤ ks.length ∧ ks.length ≤ 4 ∧ 1 ≤ need ∧ need ≤ (ks.length : Int)
instance (ks : List (List Int)) (need : Int) : Decidable (bas ks need) := by unfold bas; infer_instance
def outK (ks : List (List Int)) (need : Int) (i : Nat) : Prop := bas ks need ∧ ∀ a, a < i → ¬ 0 ≤ idx (ks.take a) (ks.getD a [])
instance (ks : List (List Int)) (need : Int) (i : Nat) : Decidable (outK ks need i) := by unfold outK; infer_instance
def innK (ks : List (List Int)) (need : Int) (i j : Nat) : Prop := outK ks need i ∧ ∀ b, b < j → ks.getD i [] ≠ ks.getD b []
instance (ks : List (List Int)) (need : Int) (i j : Nat) : Decidable (innK ks need i j) := by unfold innK; infer_instance
theorem innK_all {ks : List (List Int)} {need : Int} {i : Nat} (hi : i < ks.length) : innK ks need i i ↔ outK ks need (i + 1) := by
  have hx : (¬ 0 ≤ idx (ks.take i) (ks.getD i [])) ↔ ∀ b, b < i → ks.getD i [] ≠ ks.getD b [] := by
    rw [idx_neg, List.length_take, Nat.min_eq_left (by omega)]
    constructor
    · intro h b hb
      have := h b hb
      simpa [List.getD_eq_getElem?_getD, List.getElem?_take, hb] using this
    · intro h b hb
      have := h b hb
      simpa [List.getD_eq_getElem?_getD, List.getElem?_take, hb] using this
  constructor
  · rintro ⟨⟨h1, h2⟩, h3⟩
    refine ⟨h1, fun a ha => ?_⟩
    rcases Nat.lt_succ_iff_lt_or_eq.1 ha with ha | rfl
    · exact h2 a ha
    · exact hx.2 h3
  · rintro ⟨h1, h2⟩
    exact ⟨⟨h1, fun a ha => h2 a (by omega)⟩, hx.1 (h2 i (by omega))⟩
theorem outK_isK {ks : List (List Int)} {need : Int} : isK ks need ↔ outK ks need ks.length := ⟨fun ⟨h1, h2⟩ => ⟨h2, h1⟩, fun ⟨h1, h2⟩ => ⟨h2, h1⟩⟩
set_option maxRecDepth 20000 in
set_option maxHeartbeats 1000000 in
theorem is_any (sv : Value) (ks : List (List Int)) (need : Int) (w : World) (hu : H32 ks) (hs0 : ks.length ≤ 140737488352000) (h : Rd w sv 32 (flat ks)) : Calls Try.prog 58 #[.agg ([sv, .int .i64 need]).toArray] w (PostV w (.bool (decide (isK ks need)))) := by
  refine calls_at (vs := [.agg ([sv, .int .i64 need]).toArray]) (X := []) (H := []) (F := [(20, .sl sv 32 (flat (ks)))]) 43 Try.func58 rfl rfl rfl (Sat.rd0 20 h) ?_
  refine cd_seq ?_
  refine cd_region ?_
  refine st_box (h := 1) rfl rfl rfl rfl (fun b1 => ?_)
  refine st (ev_assign rfl) rfl rfl rfl ?_
  refine op_nil ?_
  refine ax_then ?_
  refine At.regs (L' := [(1, _), (2, _)]) (.cons rfl (.cons rfl (.nil _))) ?_
  refine cd_seq ?_
  refine cd_seq ?_
  refine cd_region ?_
  refine st (ev_fieldAddr (b := _) Try.underlying24 (f := _) rfl ty22 (by decide) rfl) rfl rfl rfl ?_
  refine st (ld_blk1 (h := 1) ty22 rfl rfl rfl rfl) rfl rfl rfl ?_
  refine st (ev_len_rdh (h := 20) Try.underlying22 rfl rfl (by assumption)) rfl rfl rfl ?_
  refine st (ev_move rfl) rfl rfl rfl ?_
  refine op_nil ?_
  refine ax_then ?_
  refine At.regs (L' := [(1, _), (2, _), (6, _), (7, _), (8, _)]) (.cons rfl (.cons rfl (.cons rfl (.cons rfl (.cons rfl (.nil _)))))) ?_
  refine cd_block ?_
  refine cd_loop (ι := Nat) (fun i => i ≤ ks.length ∧ ∀ a, a < i → ¬ 0 ≤ idx (ks.take a) (ks.getD a [])) (fun i => ks.length - i)
      (fun i => [(1, .pointer (some ⟨b1, 0, none⟩)), (6, sv), (7, .int .i64 (ks.length : Nat)), (8, .int .i64 (i : Int))])
      (fun i => [(1, .blk b1 (.cells ([sv, .int .i64 need]).toArray 24))])
      (fun i => [(20, .sl sv 32 (flat (ks)))])
      0 (⟨by omega, fun j hj => by omega⟩) (.cons rfl (.cons rfl (.cons rfl (.cons rfl (.nil _))))) (.cons rfl (.nil _)) (.cons rfl (.nil _)) (fun i hi => ?_)
  have hi1 := hi.1
  have e0 : (i : Int).toNat = i := by omega
  refine cd_seq ?_
  refine cd_region ?_
  refine st (ev_lss rfl rfl) rfl rfl rfl ?_
  refine op_nil ?_
  refine ax_then ?_
  refine At.regs (L' := [(1, _), (6, _), (7, _), (8, _), (9, _)]) (.cons rfl (.cons rfl (.cons rfl (.cons rfl (.cons rfl (.nil _)))))) ?_
  refine cd_seq ?_
  refine cd_if rfl (fun hc9 => ?_) (fun hc9 => ?_)
  ·
    refine cd_skip ?_
    refine ax_then ?_
    refine At.regs (L' := [(1, _), (6, _), (7, _), (8, _), (9, _)]) (.cons rfl (.cons rfl (.cons rfl (.cons rfl (.cons rfl (.nil _)))))) ?_
    refine cd_seq ?_
    refine cd_block ?_
    refine cd_seq ?_
    refine cd_region ?_
    refine st (ev_move rfl) rfl rfl rfl ?_
    refine st (ev_indexAddr_rdh (h := 20) Try.underlying22 ty55 rfl rfl rfl (by assumption) (by omega) (by omega)) rfl rfl rfl ?_
    refine st (ld_rdh (h := 20) ty55 rfl rfl rfl (by assumption) (by omega)) rfl rfl rfl ?_
    refine at_eq (i := 12) (v' := .agg (ints .u8 (ks.getD i [])).toArray) rfl (by rw [e0]) ?_
    have hgl := hu.get (i := i) (by omega)
    refine st_alloc (h := 4) ty55 rfl rfl rfl (fun b4 => ?_)
    refine st (ev_assign rfl) rfl rfl rfl ?_
    refine st_store_all 4 ty55 rfl rfl rfl rfl (by first | omega | (simp only [List.length_append, List.length_cons, List.length_nil, List.length_set, List.length_replicate, List.length_take, List.length_drop, ints_length, wr_length] <;> omega) | exact H32.get (by assumption) (by omega) | rfl) (ints_one _ _) (by first | omega | (simp only [List.length_append, List.length_cons, List.length_nil, List.length_set, List.length_replicate, List.length_take, List.length_drop, ints_length, wr_length] <;> omega) | exact H32.get (by assumption) (by omega) | rfl) rfl ?_
    refine op_nil ?_
    refine ax_then ?_
    refine At.regs (L' := [(1, _), (3, _), (4, _), (6, _), (7, _), (8, _), (9, _), (10, _), (11, _), (12, _)]) (.cons rfl (.cons rfl (.cons rfl (.cons rfl (.cons rfl (.cons rfl (.cons rfl (.cons rfl (.cons rfl (.cons rfl (.nil _))))))))))) ?_
    refine cd_seq ?_
    refine cd_open hmix (by decide +kernel) ?_
    refine qt (ev_fieldAddr (b := _) Try.underlying24 (f := _) rfl ty22 (by decide) rfl) rfl rfl rfl ?_
    refine qt (ld_blk1 (h := 1) ty22 rfl rfl rfl rfl) rfl rfl rfl ?_
    refine qt (ev_move rfl) rfl rfl rfl ?_
    refine qt (ev_sliceh_hi Try.underlying22 ty55 rfl rfl (fun w1 sw => sw.sl_rd (h := 20) rfl) (by assumption) (by omega) (by first | omega | (simp only [List.length_append, List.length_cons, List.length_nil, List.length_set, List.length_replicate, List.length_take, List.length_drop, ints_length, wr_length] <;> omega))) rfl rfl rfl ?_
    refine qt_eq (i := 16) (v' := cutAt 32 sv 0 i) rfl (by rw [e0]) ?_
    refine qt (ld_blk_all (h := 4) ty55 rfl rfl rfl (by first | omega | (simp only [List.length_append, List.length_cons, List.length_nil, List.length_set, List.length_replicate, List.length_take, List.length_drop, ints_length, wr_length] <;> omega) | exact H32.get (by assumption) (by omega) | rfl)) rfl rfl rfl ?_
    refine qt_callv has89 rfl (fun w1 sw => contains_any (cutAt 32 sv 0 i) (ks.take i) (ks.getD i []) w1 (hu.take i) hgl (by rw [List.length_take]; omega) (takeh (sw.sl_rd (h := 20) rfl) hu (by omega))) rfl rfl ?_
    refine qt_end ?_
    refine op_nil ?_
    refine ax_then ?_
    refine At.regs (L' := [(1, _), (3, _), (4, _), (6, _), (7, _), (8, _), (9, _), (10, _), (11, _), (12, _), (13, _), (14, _), (15, _), (16, _), (17, _), (18, _)]) (.cons rfl (.cons rfl (.cons rfl (.cons rfl (.cons rfl (.cons rfl (.cons rfl (.cons rfl (.cons rfl (.cons rfl (.cons rfl (.cons rfl (.cons rfl (.cons rfl (.cons rfl (.cons rfl (.nil _))))))))))))))))) ?_
    refine cd_if rfl (fun hc18 => ?_) (fun hc18 => ?_)
    ·
      refine cd_seq ?_
      refine cd_region ?_
      refine st (ev_assign rfl) rfl rfl rfl ?_
      refine op_nil ?_
      refine ax_then ?_
      refine At.regs (L' := [(1, _), (2, _), (3, _), (4, _), (6, _), (7, _), (8, _), (9, _), (10, _), (11, _), (12, _), (13, _), (14, _), (15, _), (16, _), (17, _), (18, _)]) (.cons rfl (.cons rfl (.cons rfl (.cons rfl (.cons rfl (.cons rfl (.cons rfl (.cons rfl (.cons rfl (.cons rfl (.cons rfl (.cons rfl (.cons rfl (.cons rfl (.cons rfl (.cons rfl (.cons rfl (.nil _)))))))))))))))))) ?_
      refine cd_ret ?_
      refine ax_block_ret ?_
      refine ax_then_ret ?_
      refine ax_then_ret ?_
      refine ax_block_ret ?_
      refine ax_then_ret ?_
      refine rt_tmp (.inl rfl) Try.results58 rfl ?_
      exact fun w1 sw => ⟨congrArg (fun b => Ending.returned (Value.bool b)) (decide_eq_false (fun hh => hh.1 i (by omega) hc18)).symm, sw.gives (.nil _)⟩
    ·
      refine cd_skip ?_
      refine ax_block ?_
      refine ax_then ?_
      refine At.regs (L' := [(1, _), (3, _), (4, _), (6, _), (7, _), (8, _), (9, _), (10, _), (11, _), (12, _), (13, _), (14, _), (15, _), (16, _), (17, _), (18, _)]) (.cons rfl (.cons rfl (.cons rfl (.cons rfl (.cons rfl (.cons rfl (.cons rfl (.cons rfl (.cons rfl (.cons rfl (.cons rfl (.cons rfl (.cons rfl (.cons rfl (.cons rfl (.cons rfl (.nil _))))))))))))))))) ?_
      refine cd_region ?_
      refine st (ev_add64 rfl rfl (by omega) (by omega)) rfl rfl rfl ?_
      refine st (ev_move rfl) rfl rfl rfl ?_
      refine op_nil ?_
      exact at_again (i + 1) (⟨by omega, fun j hj => (Nat.lt_succ_iff_lt_or_eq.1 hj).elim (hi.2 j) (fun e => by subst e; exact hc18)⟩) (by omega) (.cons rfl (.cons rfl (.cons rfl (.cons rfl (.nil _))))) (.cons rfl (.nil _)) (.cons rfl (.nil _))
  ·
    obtain rfl : i = ks.length := by omega
    refine cd_exit ?_
    refine ax_then_exit ?_
    refine ax_then_exit ?_
    refine ax_block_hit ?_
    refine ax_then ?_
    refine At.regs (L' := [(1, _)]) (.cons rfl (.nil _)) ?_
    refine cd_seq ?_
    refine cd_region ?_
    refine st (ev_fieldAddr (b := _) Try.underlying24 (f := _) rfl ty22 (by decide) rfl) rfl rfl rfl ?_
    refine st (ld_blk1 (h := 1) ty22 rfl rfl rfl rfl) rfl rfl rfl ?_
    refine st (ev_len_rdh (h := 20) Try.underlying22 rfl rfl (by assumption)) rfl rfl rfl ?_
    refine st (ev_geq rfl rfl) rfl rfl rfl ?_
    refine st (ev_move rfl) rfl rfl rfl ?_
    refine at_split_if (i := 24) rfl (fun hg24 => ?_) (fun hg24 => ?_)
    ·
      refine st (ev_fieldAddr (b := _) Try.underlying24 (f := _) rfl ty22 (by decide) rfl) rfl rfl rfl ?_
      refine st (ld_blk1 (h := 1) ty22 rfl rfl rfl rfl) rfl rfl rfl ?_
      refine st (ev_len_rdh (h := 20) Try.underlying22 rfl rfl (by assumption)) rfl rfl rfl ?_
      refine st (ev_leq rfl rfl) rfl rfl rfl ?_
      refine st (ev_pick_t rfl rfl) rfl rfl rfl ?_
      refine st (ev_move rfl) rfl rfl rfl ?_
      refine at_split_if (i := 30) rfl (fun hg30 => ?_) (fun hg30 => ?_)
      ·
        refine st (ev_fieldAddr (b := _) Try.underlying24 (f := _) rfl ty3 (by decide) rfl) rfl rfl rfl ?_
        refine st (ld_blk1 (h := 1) ty3 rfl rfl rfl rfl) rfl rfl rfl ?_
        refine st (ev_geq rfl rfl) rfl rfl rfl ?_
        refine st (ev_pick_t rfl rfl) rfl rfl rfl ?_
        refine st (ev_move rfl) rfl rfl rfl ?_
        refine at_split_if (i := 35) rfl (fun hg35 => ?_) (fun hg35 => ?_)
        ·
          refine st (ev_fieldAddr (b := _) Try.underlying24 (f := _) rfl ty3 (by decide) rfl) rfl rfl rfl ?_
          refine st (ld_blk1 (h := 1) ty3 rfl rfl rfl rfl) rfl rfl rfl ?_
          refine st (ev_fieldAddr (b := _) Try.underlying24 (f := _) rfl ty22 (by decide) rfl) rfl rfl rfl ?_
          refine st (ld_blk1 (h := 1) ty22 rfl rfl rfl rfl) rfl rfl rfl ?_
          refine st (ev_len_rdh (h := 20) Try.underlying22 rfl rfl (by assumption)) rfl rfl rfl ?_
          refine st (ev_leq rfl rfl) rfl rfl rfl ?_
          refine st (ev_pick_t rfl rfl) rfl rfl rfl ?_
          refine st (ev_assign rfl) rfl rfl rfl ?_
          refine op_nil ?_
          refine ax_then ?_
          refine At.regs (L' := [(2, _)]) (.cons rfl (.nil _)) ?_
          refine cd_ret ?_
          refine rt_tmp (.inl rfl) Try.results58 rfl ?_
          exact fun w1 sw => ⟨congrArg (fun b => Ending.returned (Value.bool b)) (decide_eq_decide.2 ⟨fun h => ⟨hi.2, by omega, by omega, by omega, by omega⟩, fun h => h.2.2.2.2⟩), sw.gives (.nil _)⟩
        ·
          refine st_skip rfl rfl rfl ?_
          refine st_skip rfl rfl rfl ?_
          refine st_skip rfl rfl rfl ?_
          refine st_skip rfl rfl rfl ?_
          refine st_skip rfl rfl rfl ?_
          refine st_skip rfl rfl rfl ?_
          refine st (ev_pick_f rfl rfl) rfl rfl rfl ?_
          refine st (ev_assign rfl) rfl rfl rfl ?_
          refine op_nil ?_
          refine ax_then ?_
          refine At.regs (L' := [(2, _)]) (.cons rfl (.nil _)) ?_
          refine cd_ret ?_
          refine rt_tmp (.inl rfl) Try.results58 rfl ?_
          exact fun w1 sw => ⟨congrArg (fun b => Ending.returned (Value.bool b)) (decide_eq_false (fun hh => by obtain ⟨_, a1, a2, a3, a4⟩ := hh; omega)).symm, sw.gives (.nil _)⟩
      ·
        refine st_skip rfl rfl rfl ?_
        refine st_skip rfl rfl rfl ?_
        refine st_skip rfl rfl rfl ?_
        refine st (ev_pick_f rfl rfl) rfl rfl rfl ?_
        refine st (ev_move rfl) rfl rfl rfl ?_
        refine st_skip rfl rfl rfl ?_
        refine st_skip rfl rfl rfl ?_
        refine st_skip rfl rfl rfl ?_
        refine st_skip rfl rfl rfl ?_
        refine st_skip rfl rfl rfl ?_
        refine st_skip rfl rfl rfl ?_
        refine st (ev_pick_f rfl rfl) rfl rfl rfl ?_
        refine st (ev_assign rfl) rfl rfl rfl ?_
        refine op_nil ?_
        refine ax_then ?_
        refine At.regs (L' := [(2, _)]) (.cons rfl (.nil _)) ?_
        refine cd_ret ?_
        refine rt_tmp (.inl rfl) Try.results58 rfl ?_
        exact fun w1 sw => ⟨congrArg (fun b => Ending.returned (Value.bool b)) (decide_eq_false (fun hh => by obtain ⟨_, a1, a2, a3, a4⟩ := hh; omega)).symm, sw.gives (.nil _)⟩
    ·
      refine st_skip rfl rfl rfl ?_
      refine st_skip rfl rfl rfl ?_
      refine st_skip rfl rfl rfl ?_
      refine st_skip rfl rfl rfl ?_
      refine st (ev_pick_f rfl rfl) rfl rfl rfl ?_
      refine st (ev_move rfl) rfl rfl rfl ?_
      refine st_skip rfl rfl rfl ?_
      refine st_skip rfl rfl rfl ?_
      refine st_skip rfl rfl rfl ?_
      refine st (ev_pick_f rfl rfl) rfl rfl rfl ?_
      refine st (ev_move rfl) rfl rfl rfl ?_
      refine st_skip rfl rfl rfl ?_
      refine st_skip rfl rfl rfl ?_
      refine st_skip rfl rfl rfl ?_
      refine st_skip rfl rfl rfl ?_
      refine st_skip rfl rfl rfl ?_
      refine st_skip rfl rfl rfl ?_
      refine st (ev_pick_f rfl rfl) rfl rfl rfl ?_
      refine st (ev_assign rfl) rfl rfl rfl ?_
      refine op_nil ?_
      refine ax_then ?_
      refine At.regs (L' := [(2, _)]) (.cons rfl (.nil _)) ?_
      refine cd_ret ?_
      refine rt_tmp (.inl rfl) Try.results58 rfl ?_
      exact fun w1 sw => ⟨congrArg (fun b => Ending.returned (Value.bool b)) (decide_eq_false (fun hh => by obtain ⟨_, a1, a2, a3, a4⟩ := hh; omega)).symm, sw.gives (.nil _)⟩
end Go.Proofs.Ytgfnmolbagilmaa

namespace Go.Proofs.Ytgfnmolbagilmaa.Rr
open Go Fw Sha Ky Go.Proofs.Ytgfnmolbagilmaa
set_option linter.unusedSimpArgs false
set_option linter.unusedVariables false
/-- what is read is what would be laid -/
theorem numG_back : ∀ (r : List Int) (i u : Nat) (x : Int × Nat), Byt r → u < 128 ^ i → numG i (u : Int) r = some x → ∃ n : Nat, (i = 0 ∨ 0 < n) ∧ x.1 = ((u + n * 128 ^ i : Nat) : Int) ∧ i < x.2 ∧ r = encN n ++ r.drop (x.2 - i)
  | [], _, _, _, _, _, h => by simp [numG] at h
  | c :: r, i, u, x, hb, hu, h => by
    obtain ⟨hc0, hc1⟩ := hb c (by simp)
    obtain ⟨m, rfl⟩ := Int.eq_ofNat_of_zero_le hc0
    have hm : m < 256 := by omega
    have hspec := numG_spec _ _ _ _ h
    simp only [numG] at h
    split at h
    · cases h
    · next h9 =>
      have hi : i ≤ 8 := by omega
      have hp : 128 ^ i ≤ 128 ^ 8 := Nat.pow_le_pow_right (by decide) hi
      have e8 : 128 ^ 8 = 72057594037927936 := by decide
      have hmm : m % 128 ≤ 127 := by omega
      have hpr : m % 128 * 128 ^ i ≤ 127 * 128 ^ i := Nat.mul_le_mul_right _ hmm
      have ha := acc_nat (c := m) hu hm hi (by omega)
      split at h
      · next hlt =>
        split at h
        · cases h
        · have hx := Option.some.inj h
          subst hx
          have e : m % 128 = m := Nat.mod_eq_of_lt (by omega)
          rw [e] at ha
          refine ⟨m, by omega, ha, Nat.lt_succ_self _, ?_⟩
          rw [encN_lt (by omega), show i + 1 - i = 1 by omega]
          rfl
      · next hlt =>
        rw [ha] at h
        have hsum : u + m % 128 * 128 ^ i < 128 ^ (i + 1) := by
          have h4 : (m % 128 + 1) * 128 ^ i ≤ 128 * 128 ^ i := Nat.mul_le_mul_right _ (by omega)
          rw [Nat.succ_mul] at h4
          rw [Nat.pow_succ, Nat.mul_comm (128 ^ i) 128]
          omega
        obtain ⟨n, h1, h2, h3, h4⟩ := numG_back r (i + 1) (u + m % 128 * 128 ^ i) x (fun c hc => hb c (by simp [hc])) hsum h
        have hn : 0 < n := by omega
        have hnm : (m % 128 + n * 128) % 128 = m % 128 := by omega
        have hnd : (m % 128 + n * 128) / 128 = n := by omega
        refine ⟨m % 128 + n * 128, by omega, ?_, by omega, ?_⟩
        · rw [h2]
          congr 1
          rw [Nat.pow_succ, Nat.add_mul, Nat.mul_comm (128 ^ i) 128, ← Nat.mul_assoc]
          omega
        · rw [encN_ge (by omega), hnm, hnd, show x.2 - i = (x.2 - (i + 1)) + 1 by omega, List.drop_succ_cons, List.cons_append, ← h4]
          congr 1
          have : m % 128 + 128 = m := by omega
          rw [this]
theorem num_of {r : List Int} (hb : Byt r) (h : nBad r = false) : r = num (nVal r) ++ nRest r := by
  unfold nBad at h
  cases hs : numS r with
  | none => rw [hs] at h; cases h
  | some x =>
    obtain ⟨n, _, h2, _, h4⟩ := numG_back r 0 0 x hb (by decide) hs
    have hsp := numS_spec hs
    obtain ⟨e1, _, e3⟩ := nVal_ok hs
    rw [e1, e3]
    have e5 : x.1 = (n : Int) := by rw [h2, Nat.pow_zero, Nat.mul_one, Nat.zero_add]
    have e6 : clampN x.1 = n := by
      rw [e5]
      have : (n : Int) ≤ 4611686018427387904 := by rw [← e5]; exact hsp.2.1
      unfold clampN
      omega
    rw [Nat.sub_zero] at h4
    rw [num, e6]
    exact h4
end Go.Proofs.Ytgfnmolbagilmaa.Rr
namespace Go.Proofs.Ytgfnmolbagilmaa.Rt
open Go Fw Sha Ky Go.Proofs.Ytgfnmolbagilmaa
set_option linter.unusedSimpArgs false
set_option linter.unusedVariables false
structure KD where
  ks : List (List Int)
  need : Int
structure RT where
  ver : Int
  exp : Int
  roles : List KD
def encK (k : KD) : List Int := Rr.num (k.ks.length : Nat) ++ (k.ks.flatten ++ Rr.num k.need)
def encRs (l : List KD) : List Int := l.flatMap encK
def encB (r : RT) : List Int := Rr.num r.ver ++ (Rr.num r.exp ++ encRs r.roles)
def encR (r : RT) : List Int := Rr.num 1 ++ encB r
def okK (k : KD) : Prop := H32 k.ks ∧ k.ks.length ≤ 4 ∧ 0 ≤ k.need ∧ k.need ≤ 4611686018427387904
def isRt (r : RT) : Prop := (∀ k, k ∈ r.roles → isK k.ks k.need) ∧ 1 ≤ r.ver ∧ r.ver ≤ 1073741824 ∧ 0 ≤ r.exp ∧ r.exp ≤ 1073741824
def decOK (b : List Int) (r : RT) : Prop := r.roles.length = 4 ∧ (∀ k, k ∈ r.roles → H32 k.ks) ∧ isRt r ∧ b = encR r
theorem flat_h32 : ∀ {hs : List (List Int)}, H32 hs → hs.flatten.length = 32 * hs.length
  | [], _ => rfl
  | h :: hs, hu => by rw [List.flatten_cons, List.length_append, hu.head, flat_h32 hu.tail, List.length_cons]; omega
theorem encK_len {k : KD} (hu : H32 k.ks) : (encK k).length ≤ 18 + 32 * k.ks.length := by
  have h1 := Rr.num_len (k.ks.length : Nat)
  have h2 := Rr.num_len k.need
  have h3 := flat_h32 hu
  simp only [encK, List.length_append]
  omega
theorem isK_ok {k : KD} (hu : H32 k.ks) (h : isK k.ks k.need) : okK k := by
  obtain ⟨_, h1, h2, h3, h4⟩ := h
  exact ⟨hu, h2, by omega, by omega⟩
theorem encRs_snoc (l : List KD) (k : KD) : encRs (l ++ [k]) = encRs l ++ encK k := by simp [encRs]
theorem encRs_cons (l : List KD) (k : KD) : encRs (k :: l) = encK k ++ encRs l := by simp [encRs]
/-- what reading keys comes to; lim: no more than five were taken -/
structure KRel (lim bad : Bool) (r : List Int) (k : KD) (bad' : Bool) (r' : List Int) : Prop where
  h32 : H32 k.ks
  len : 32 * k.ks.length ≤ r.length + 32
  short : r'.length ≤ r.length
  five : lim = true → k.ks.length ≤ 5
  byt : Byt r → Byt r' ∧ ∀ y, y ∈ k.ks → Byt y
  need : 0 ≤ k.need ∧ k.need ≤ 4611686018427387904
  mono : bad' = false → bad = false
  sound : lim = false → bad' = false → bad = false ∧ r = encK k ++ r'
  full : ∀ k0 t, bad = false → r = encK k0 ++ t → okK k0 → k = k0 ∧ r' = t ∧ bad' = false
  rest : (bad = true → r = []) → bad' = true → r' = []
/-- what reading a root comes to, behind its kind -/
structure RRel (lim bad : Bool) (r : List Int) (x : RT) (bad' : Bool) (r' : List Int) : Prop where
  len : x.roles.length = 4
  h32 : ∀ k, k ∈ x.roles → H32 k.ks
  lens : ∀ k, k ∈ x.roles → 32 * k.ks.length ≤ r.length + 32
  five : lim = true → ∀ k, k ∈ x.roles → k.ks.length ≤ 5
  byt : Byt r → ∀ k, k ∈ x.roles → ∀ y, y ∈ k.ks → Byt y
  mono : bad' = false → bad = false
  sound : lim = false → bad' = false → bad = false ∧ r = encB x ++ r'
  full : ∀ x0 t, bad = false → r = encB x0 ++ t → x0.roles.length = 4 → (∀ k, k ∈ x0.roles → okK k) → 0 ≤ x0.ver ∧ x0.ver ≤ 1073741824 → 0 ≤ x0.exp ∧ x0.exp ≤ 1073741824 → x = x0 ∧ r' = t ∧ bad' = false
  rest : (bad = true → r = []) → bad' = true → r' = []
def zeroR : RT := ⟨0, 0, List.replicate 4 ⟨[], 0⟩⟩
open Classical in
noncomputable def dec (b : List Int) : RT × Int := if h : ∃ r, decOK b r then (Classical.choose h, 0) else (zeroR, 2)
/-- a row of keys that is read, all of it -/
theorem rs_full {l0 : List KD} {t : List Int} (hl : ∀ k, k ∈ l0 → okK k) {i : Nat} (hi : i < l0.length) : encRs (l0.drop i) ++ t = encK (l0.getD i ⟨[], 0⟩) ++ (encRs (l0.drop (i + 1)) ++ t) := by
  rw [List.drop_eq_getElem_cons hi, encRs_cons, List.append_assoc, List.getD_eq_getElem?_getD, List.getElem?_eq_getElem hi]
  rfl
end Go.Proofs.Ytgfnmolbagilmaa.Rt
