/- Walks: chapter 4. -/
import Derived.Test.YteedclmcgifmpaaOtsA
import Derived.Test.YteedclmcgifmpaaD2
import Derived.Test.YteedclmcgifmpaaD3
import Derived.Test.YteedclmcgifmpaaFwB
namespace Go.Proofs.Yteedclmcgifmpaa
open Go Go.RowKit Fw
open Sha
open Mk
set_option linter.unusedVariables false
set_option linter.unusedSimpArgs false

def len8 (n : Nat) : Nat := if n = 0 then 0 else Nat.log2 n + 1
theorem len8_at {s : ByteArray} (h : ((List.range 256).all fun n => s[n]? == some (UInt8.ofNat (len8 n))) = true) {n : Nat} (hn : n < 256) : s[n]? = some (UInt8.ofNat (len8 n)) := by
  have := List.all_eq_true.1 h n (List.mem_range.2 hn)
  exact eq_of_beq this
theorem len8_le : ∀ n, n < 256 → len8 n ≤ 8 := by decide +kernel
theorem ishl1 : ∀ j : Nat, j < 9 → ishl .i64 1 (j : Int) = ((2 ^ j : Nat) : Int) := by decide +kernel
theorem half_le {n : Nat} (h2 : 2 ≤ n) (h : n ≤ 256) : half n ≤ 128 := by
  have : ∀ n, n ≤ 256 → 2 ≤ n → half n ≤ 128 := by decide +kernel
  exact this n h h2
theorem half_of {n j : Nat} (h1 : 2 ^ j < n) (h2 : ¬ 2 * 2 ^ j < n) : half n = 2 ^ j := by
  rw [half, (Nat.log2_eq_iff (k := j) (by have := Nat.pow_pos (n := j) (show 0 < 2 by decide); omega)).2 ⟨by omega, by rw [Nat.pow_succ]; omega⟩]
theorem takeh {w : World} {v : Value} {hs : List (List Int)} {i : Nat} (h : Rd w v 32 (flat hs)) (hu : H32 hs) (hi : i ≤ hs.length) : Rd w (cutAt 32 v 0 i) 32 (flat (hs.take i)) := by
  have := h.cuth (lo := 0) (hi := i) hu (by omega) hi
  simpa using this
theorem droph {w : World} {v : Value} {hs : List (List Int)} {i : Nat} (h : Rd w v 32 (flat hs)) (hu : H32 hs) (hi : i ≤ hs.length) : Rd w (cutAt 32 v i hs.length) 32 (flat (hs.drop i)) := by
  have := h.cuth (lo := i) (hi := hs.length) hu hi (Nat.le_refl _)
  rwa [List.take_of_length_le (by rw [List.length_drop]; exact Nat.le_refl _)] at this
theorem up_take (leaf : List Int) (i : Int) {p : List (List Int)} {k : Nat} (hk : k < p.length) : up leaf i (p.take (k + 1)) = if i / 2 ^ k % 2 = 0 then node (up leaf i (p.take k)) (p.getD k []) else node (p.getD k []) (up leaf i (p.take k)) := by
  have e : p.take (k + 1) = p.take k ++ [p.getD k []] := by
    rw [List.take_succ_eq_append_getElem hk, List.getD_eq_getElem?_getD, List.getElem?_eq_getElem hk]
    rfl
  rw [e, up_snoc, List.length_take, Nat.min_eq_left (by omega)]
theorem div_step (i : Int) (k : Nat) : i / 2 ^ k / 2 = i / 2 ^ (k + 1) := by
  rw [Int.pow_succ]
  exact Int.ediv_ediv_of_nonneg (Int.le_of_lt (Int.pow_pos (by decide)))
theorem div_range {i : Int} (h : 0 ≤ i) (k : Nat) : 0 ≤ i / 2 ^ k ∧ i / 2 ^ k ≤ i :=
  ⟨Int.ediv_nonneg h (Int.le_of_lt (Int.pow_pos (by decide))), Int.ediv_le_self _ h⟩
theorem root_small {cs : List (List Int)} (h : cs.length = 1) : root cs = cs.getD 0 [] := by
  match cs, h with
  | [a], _ => exact root_one a

set_option maxRecDepth 20000 in
set_option maxHeartbeats 1000000 in
theorem len64_any (n : Nat) (w : World) (hn : n < 256) : Calls Try.prog 111 #[.int .u64 (n : Int)] w (PostV w (.int .i64 (len8 n : Int))) := by
  have hl8 := len8_le n hn
  have hw : IntKind.u8.wrap (n : Int) = (n : Int) := by simp [IntKind.wrap, IntKind.bits, IntKind.signed]; omega
  have hub : ((UInt8.ofNat (len8 n)).toNat : Int) = (len8 n : Int) := by rw [UInt8.toNat_ofNat']; omega
  refine calls_at (vs := [.int .u64 (n : Int)]) (X := []) (H := []) (F := []) 25 Try.func111 rfl rfl rfl (Sat.start0 w) ?_
  refine cd_seq ?_
  refine cd_region ?_
  refine st (ev_assign rfl) rfl rfl rfl ?_
  refine op_nil ?_
  refine ax_then ?_
  refine At.regs (L' := [(0, _), (2, _)]) (.cons rfl (.cons rfl (.nil _))) ?_
  refine cd_seq ?_
  refine cd_seq ?_
  refine cd_region ?_
  refine st (ev_move rfl) rfl rfl rfl ?_
  refine st (ev_geq rfl rfl) rfl rfl rfl ?_
  refine op_nil ?_
  refine ax_then ?_
  refine At.regs (L' := [(0, _), (2, _), (4, _)]) (.cons rfl (.cons rfl (.cons rfl (.nil _)))) ?_
  refine cd_if_f rfl (by omega) ?_
  refine cd_skip ?_
  refine ax_then ?_
  refine At.regs (L' := [(0, _), (2, _)]) (.cons rfl (.cons rfl (.nil _))) ?_
  refine cd_seq ?_
  refine cd_seq ?_
  refine cd_region ?_
  refine st (ev_move rfl) rfl rfl rfl ?_
  refine st (ev_geq rfl rfl) rfl rfl rfl ?_
  refine op_nil ?_
  refine ax_then ?_
  refine At.regs (L' := [(0, _), (2, _), (8, _)]) (.cons rfl (.cons rfl (.cons rfl (.nil _)))) ?_
  refine cd_if_f rfl (by omega) ?_
  refine cd_skip ?_
  refine ax_then ?_
  refine At.regs (L' := [(0, _), (2, _)]) (.cons rfl (.cons rfl (.nil _))) ?_
  refine cd_seq ?_
  refine cd_seq ?_
  refine cd_region ?_
  refine st (ev_move rfl) rfl rfl rfl ?_
  refine st (ev_geq rfl rfl) rfl rfl rfl ?_
  refine op_nil ?_
  refine ax_then ?_
  refine At.regs (L' := [(0, _), (2, _), (14, _)]) (.cons rfl (.cons rfl (.cons rfl (.nil _)))) ?_
  refine cd_if_f rfl (by omega) ?_
  refine cd_skip ?_
  refine ax_then ?_
  refine At.regs (L' := [(0, _), (2, _)]) (.cons rfl (.cons rfl (.nil _))) ?_
  refine cd_seq ?_
  refine cd_region ?_
  refine st (ev_move rfl) rfl rfl rfl ?_
  refine st (ev_move rfl) rfl rfl rfl ?_
  refine st (ev_conv Try.underlying121 Try.underlying5 rfl) rfl rfl rfl ?_
  refine at_eq (i := 21) (v' := .int .u8 (n : Int)) rfl (by rw [hw]) ?_
  refine st (ev_index_str Try.underlying9 rfl rfl (by omega) (by rw [Int.toNat_natCast]; exact len8_at (by decide +kernel) hn)) rfl rfl rfl ?_
  refine at_eq (i := 22) (v' := .int .u8 (len8 n : Int)) rfl (by rw [hub]) ?_
  refine st (ev_conv64 Try.underlying5 Try.underlying3 rfl (by omega) (by omega)) rfl rfl rfl ?_
  refine st (ev_add64 rfl rfl (by omega) (by omega)) rfl rfl rfl ?_
  refine at_eq (i := 24) (v' := .int .i64 (len8 n : Int)) rfl (by rw [Int.zero_add]) ?_
  refine st (ev_assign rfl) rfl rfl rfl ?_
  refine op_nil ?_
  refine ax_then ?_
  refine At.regs (L' := [(2, _)]) (.cons rfl (.nil _)) ?_
  refine cd_ret ?_
  refine rt_tmp (.inl rfl) Try.results111 rfl ?_
  exact fun w1 sw => ⟨rfl, sw.gives (.nil _)⟩

set_option maxRecDepth 20000 in
set_option maxHeartbeats 1000000 in
theorem len_any (n : Nat) (w : World) (hn : n < 256) : Calls Try.prog 102 #[.int .u64 (n : Int)] w (PostV w (.int .i64 (len8 n : Int))) := by
  refine calls_at (vs := [.int .u64 (n : Int)]) (X := []) (H := []) (F := []) 8 Try.func102 rfl rfl rfl (Sat.start0 w) ?_
  refine cd_seq ?_
  refine cd_region ?_
  refine st (ev_assign rfl) rfl rfl rfl ?_
  refine op_nil ?_
  refine ax_then ?_
  refine At.regs (L' := [(0, _), (2, _)]) (.cons rfl (.cons rfl (.nil _))) ?_
  refine cd_seq ?_
  refine cd_false rfl ?_
  refine cd_skip ?_
  refine ax_then ?_
  refine At.regs (L' := [(0, _), (2, _)]) (.cons rfl (.cons rfl (.nil _))) ?_
  refine cd_seq ?_
  refine cd_region ?_
  refine st (ev_move rfl) rfl rfl rfl ?_
  refine st_callv has111 rfl (fun w1 sw => len64_any n w1 hn) rfl rfl ?_
  refine st (ev_assign rfl) rfl rfl rfl ?_
  refine op_nil ?_
  refine ax_then ?_
  refine At.regs (L' := [(2, _)]) (.cons rfl (.nil _)) ?_
  refine cd_ret ?_
  refine rt_tmp (.inl rfl) Try.results102 rfl ?_
  exact fun w1 sw => ⟨rfl, sw.gives (.nil _)⟩

set_option maxRecDepth 20000 in
set_option maxHeartbeats 1000000 in
theorem half_any (n : Nat) (w : World) (h2 : 2 ≤ n) (hn : n ≤ 256) : Calls Try.prog 84 #[.int .i64 (n : Int)] w (PostV w (.int .i64 (half n : Int))) := by
  have hl8 := len8_le (n - 1) (by omega)
  have hl1 : len8 (n - 1) = Nat.log2 (n - 1) + 1 := by rw [len8, if_neg (by omega)]
  refine calls_at (vs := [.int .i64 (n : Int)]) (X := []) (H := []) (F := []) 9 Try.func84 rfl rfl rfl (Sat.start0 w) ?_
  refine cd_seq ?_
  refine cd_region ?_
  refine st (ev_assign rfl) rfl rfl rfl ?_
  refine op_nil ?_
  refine ax_then ?_
  refine At.regs (L' := [(0, _), (2, _)]) (.cons rfl (.cons rfl (.nil _))) ?_
  refine cd_seq ?_
  refine cd_region ?_
  refine st (ev_move rfl) rfl rfl rfl ?_
  refine st (ev_sub64 rfl rfl (by omega) (by omega)) rfl rfl rfl ?_
  refine st (ev_convu64 Try.underlying3 Try.underlying37 rfl (by omega) (by omega)) rfl rfl rfl ?_
  refine at_eq (i := 5) (v' := .int .u64 ((n - 1 : Nat) : Int)) rfl (by congr 1; omega) ?_
  refine st_callv has102 rfl (fun w1 sw => len_any (n - 1) w1 (by omega)) rfl rfl ?_
  refine st (ev_sub64 rfl rfl (by omega) (by omega)) rfl rfl rfl ?_
  refine at_eq (i := 7) (v' := .int .i64 (Nat.log2 (n - 1) : Nat)) rfl (by congr 1; omega) ?_
  refine st (ev_shl rfl rfl (by omega)) rfl rfl rfl ?_
  refine at_eq (i := 8) (v' := .int .i64 (half n : Int)) rfl (by rw [ishl1 _ (by omega)]; rfl) ?_
  refine st (ev_assign rfl) rfl rfl rfl ?_
  refine op_nil ?_
  refine ax_then ?_
  refine At.regs (L' := [(2, _)]) (.cons rfl (.nil _)) ?_
  refine cd_ret ?_
  refine rt_tmp (.inl rfl) Try.results84 rfl ?_
  exact fun w1 sw => ⟨rfl, sw.gives (.nil _)⟩

set_option maxRecDepth 20000 in
set_option maxHeartbeats 1000000 in
theorem rhalf_any (n : Nat) (w : World) (h2 : 2 ≤ n) (hn : n ≤ 1000000000000) : Calls Try.prog 81 #[.int .i64 (n : Int)] w (PostV w (.int .i64 (half n : Int))) := by
  refine calls_at (vs := [.int .i64 (n : Int)]) (X := []) (H := []) (F := []) 11 Try.func81 rfl rfl rfl (Sat.start0 w) ?_
  refine cd_seq ?_
  refine cd_region ?_
  refine st (ev_assign rfl) rfl rfl rfl ?_
  refine op_nil ?_
  refine ax_then ?_
  refine At.regs (L' := [(0, _), (2, _)]) (.cons rfl (.cons rfl (.nil _))) ?_
  refine cd_seq ?_
  refine cd_region ?_
  refine st (ev_assign rfl) rfl rfl rfl ?_
  refine op_nil ?_
  refine ax_then ?_
  refine At.regs (L' := [(0, _), (2, _), (3, _)]) (.cons rfl (.cons rfl (.cons rfl (.nil _)))) ?_
  refine cd_seq ?_
  refine cd_block ?_
  refine cd_loop (ι := Nat) (fun j => 2 ^ j < n) (fun j => n - 2 ^ j)
      (fun j => [(0, .int .i64 (n : Int)), (3, .int .i64 ((2 ^ j : Nat) : Int))])
      (fun j => [])
      (fun j => [])
      0 (by omega) (.cons rfl (.cons rfl (.nil _))) (.nil _) (.nil _) (fun j hi => ?_)
  have hp : 0 < 2 ^ j := Nat.pow_pos (by decide)
  refine cd_seq ?_
  refine cd_seq ?_
  refine cd_region ?_
  refine st (ev_move rfl) rfl rfl rfl ?_
  refine st (ev_mul64 rfl rfl (by omega) (by omega)) rfl rfl rfl ?_
  refine st (ev_move rfl) rfl rfl rfl ?_
  refine st (ev_lss rfl rfl) rfl rfl rfl ?_
  refine op_nil ?_
  refine ax_then ?_
  refine At.regs (L' := [(0, _), (3, _), (4, _), (5, _), (6, _), (7, _)]) (.cons rfl (.cons rfl (.cons rfl (.cons rfl (.cons rfl (.cons rfl (.nil _))))))) ?_
  refine cd_if rfl (fun hc7 => ?_) (fun hc7 => ?_)
  ·
    refine cd_skip ?_
    refine ax_then ?_
    refine At.regs (L' := [(0, _), (3, _), (4, _), (5, _), (6, _), (7, _)]) (.cons rfl (.cons rfl (.cons rfl (.cons rfl (.cons rfl (.cons rfl (.nil _))))))) ?_
    refine cd_block ?_
    refine cd_region ?_
    refine st (ev_move rfl) rfl rfl rfl ?_
    refine st (ev_mul64 rfl rfl (by omega) (by omega)) rfl rfl rfl ?_
    refine st (ev_assign rfl) rfl rfl rfl ?_
    refine op_nil ?_
    refine ax_block ?_
    refine ax_eq (i := 3) (v' := .int .i64 ((2 ^ (j + 1) : Nat) : Int)) rfl (by congr 1; rw [Nat.pow_succ]; omega) ?_
    exact at_again (j + 1) (by rw [Nat.pow_succ]; omega) (by rw [Nat.pow_succ]; omega) (.cons rfl (.cons rfl (.nil _))) (.nil _) (.nil _)
  ·
    refine at_eq (i := 3) (v' := .int .i64 (half n : Int)) rfl (by rw [half_of hi (by omega)]) ?_
    refine cd_exit ?_
    refine ax_then_exit ?_
    refine ax_then_exit ?_
    refine ax_block_hit ?_
    refine ax_then ?_
    refine At.regs (L' := [(3, _)]) (.cons rfl (.nil _)) ?_
    refine cd_seq ?_
    refine cd_region ?_
    refine st (ev_move rfl) rfl rfl rfl ?_
    refine st (ev_assign rfl) rfl rfl rfl ?_
    refine op_nil ?_
    refine ax_then ?_
    refine At.regs (L' := [(2, _)]) (.cons rfl (.nil _)) ?_
    refine cd_ret ?_
    refine rt_tmp (.inl rfl) Try.results81 rfl ?_
    exact fun w1 sw => ⟨rfl, sw.gives (.nil _)⟩

set_option maxRecDepth 20000 in
set_option maxHeartbeats 1000000 in
theorem node_any (a b : List Int) (w : World) (ha : a.length = 32) (hb : b.length = 32) : Calls Try.prog 85 #[.agg (ints .u8 (a)).toArray, .agg (ints .u8 (b)).toArray] w (PostV w (.agg (ints .u8 (node a b)).toArray)) := by
  refine calls_at (vs := [.agg (ints .u8 (a)).toArray, .agg (ints .u8 (b)).toArray]) (X := []) (H := []) (F := []) 11 Try.func85 rfl rfl rfl (Sat.start0 w) ?_
  refine cd_seq ?_
  refine cd_region ?_
  refine st_box (h := 2) rfl rfl rfl rfl (fun b2 => ?_)
  refine st_box (h := 3) rfl rfl rfl rfl (fun b3 => ?_)
  refine st_alloc (h := 4) ty39 rfl rfl rfl (fun b4 => ?_)
  refine op_nil ?_
  refine ax_then ?_
  refine At.regs (L' := [(2, _), (3, _), (4, _)]) (.cons rfl (.cons rfl (.cons rfl (.nil _)))) ?_
  refine cd_seq ?_
  refine cd_mix hmix ?_
  refine mx (i := 1) rfl (by decide +kernel) (by decide +kernel) (by decide +kernel) rfl (fun w0 => ev_slice_arr_all Try.underlying39 ty5 rfl) rfl rfl (Sub.refl _) ?_
  refine mx (i := 3) rfl (by decide +kernel) (by decide +kernel) (by decide +kernel) rfl (fun w0 => ev_slice_arr_all Try.underlying39 ty5 rfl) rfl rfl (Sub.refl _) ?_
  refine mx_one (i := 0) (by decide +kernel) (Sub.refl _) ?_
  refine wo (i := 0) rfl ?_
  refine st_bsi (h := 5) (xs := [_]) Try.underlying22 ty5 (by decide) rfl rfl (by decide) rfl rfl (fun b5 => ?_)
  refine op_nil ?_
  refine ax_then ?_
  refine mx_one (i := 2) (by decide +kernel) (Sub.refl _) ?_
  refine wo (i := 2) rfl ?_
  refine st_appendi (h := 5) Try.underlying22 Try.underlying22 ty5 rfl rfl rfl rfl (fun w1 sw => rd_blk_all sw (h := 2) rfl (by first | omega | (simp only [List.length_append, List.length_cons, List.length_nil, List.length_set, List.length_replicate, List.length_take, List.length_drop, ints_length, wr_length, node_len] <;> omega) | rfl)) (by first | omega | (simp only [List.length_append, List.length_cons, List.length_nil, List.length_set, List.length_replicate, List.length_take, List.length_drop, ints_length, wr_length, node_len] <;> omega)) (by decide) rfl rfl (fun v7 => ?_)
  refine op_nil ?_
  refine ax_then ?_
  refine mx_one (i := 4) (by decide +kernel) (Sub.refl _) ?_
  refine wo (i := 4) rfl ?_
  refine st_appendi (h := 5) Try.underlying22 Try.underlying22 ty5 rfl rfl rfl rfl (fun w1 sw => rd_blk_all sw (h := 3) rfl (by first | omega | (simp only [List.length_append, List.length_cons, List.length_nil, List.length_set, List.length_replicate, List.length_take, List.length_drop, ints_length, wr_length, node_len] <;> omega) | rfl)) (by first | omega | (simp only [List.length_append, List.length_cons, List.length_nil, List.length_set, List.length_replicate, List.length_take, List.length_drop, ints_length, wr_length, node_len] <;> omega)) (by decide) rfl rfl (fun v9 => ?_)
  refine op_nil ?_
  refine ax_then ?_
  refine mx_one (i := 5) (by decide +kernel) (Sub.refl _) ?_
  refine wo (i := 5) rfl ?_
  refine st_callv has83 rfl (fun w1 sw => sum_any v9 ([3] ++ a ++ b) w1 (by simp only [List.length_append, List.length_cons, List.length_nil]; omega) (sw.own_rd (h := 5) rfl)) rfl rfl ?_
  refine at_eq (i := 10) (v' := .agg (ints .u8 (node a b)).toArray) rfl rfl ?_
  refine op_nil ?_
  refine ax_then ?_
  refine mx_one (i := 6) (by decide +kernel) (Sub.refl _) ?_
  refine wo (i := 6) rfl ?_
  refine st_store_all 4 ty39 rfl rfl rfl rfl (by first | omega | (simp only [List.length_append, List.length_cons, List.length_nil, List.length_set, List.length_replicate, List.length_take, List.length_drop, ints_length, wr_length, node_len] <;> omega) | rfl) (ints_one _ _) (by first | omega | (simp only [List.length_append, List.length_cons, List.length_nil, List.length_set, List.length_replicate, List.length_take, List.length_drop, ints_length, wr_length, node_len] <;> omega) | rfl) rfl ?_
  refine op_nil ?_
  refine ax_then ?_
  refine mx_done (by decide +kernel) (Sub.refl _) ?_
  refine ax_then ?_
  refine At.regs (L' := [(4, _)]) (.cons rfl (.nil _)) ?_
  refine cd_ret ?_
  refine rt_cell (h0 := 4) (.inl rfl) Try.results85 ty39 rfl rfl rfl (by first | omega | (simp only [List.length_append, List.length_cons, List.length_nil, List.length_set, List.length_replicate, List.length_take, List.length_drop, ints_length, wr_length, node_len] <;> omega) | rfl) ?_
  exact fun w1 sw => ⟨rfl, sw.gives (.nil _)⟩

set_option maxRecDepth 20000 in
set_option maxHeartbeats 1000000 in
theorem rnode_any (a b : List Int) (w : World) (ha : a.length = 32) (hb : b.length = 32) : Calls Try.prog 82 #[.agg (ints .u8 (a)).toArray, .agg (ints .u8 (b)).toArray] w (PostV w (.agg (ints .u8 (node a b)).toArray)) := by
  refine calls_at (vs := [.agg (ints .u8 (a)).toArray, .agg (ints .u8 (b)).toArray]) (X := []) (H := []) (F := []) 13 Try.func82 rfl rfl rfl (Sat.start0 w) ?_
  refine cd_seq ?_
  refine cd_region ?_
  refine st_box (h := 2) rfl rfl rfl rfl (fun b2 => ?_)
  refine st_box (h := 3) rfl rfl rfl rfl (fun b3 => ?_)
  refine st_alloc (h := 4) ty39 rfl rfl rfl (fun b4 => ?_)
  refine op_nil ?_
  refine ax_then ?_
  refine At.regs (L' := [(2, _), (3, _), (4, _)]) (.cons rfl (.cons rfl (.cons rfl (.nil _)))) ?_
  refine cd_seq ?_
  refine cd_region ?_
  refine st_bsi (h := 6) (xs := [_]) Try.underlying22 ty5 (by decide) rfl rfl (by decide) rfl rfl (fun b6 => ?_)
  refine st (ev_slice_arr_all Try.underlying39 ty5 rfl) rfl rfl rfl ?_
  refine st_appendi (h := 6) Try.underlying22 Try.underlying22 ty5 rfl rfl rfl rfl (fun w1 sw => rd_blk_all sw (h := 2) rfl (by first | omega | (simp only [List.length_append, List.length_cons, List.length_nil, List.length_set, List.length_replicate, List.length_take, List.length_drop, ints_length, wr_length, node_len] <;> omega) | rfl)) (by first | omega | (simp only [List.length_append, List.length_cons, List.length_nil, List.length_set, List.length_replicate, List.length_take, List.length_drop, ints_length, wr_length, node_len] <;> omega)) (by decide) rfl rfl (fun v8 => ?_)
  refine st (ev_assign rfl) rfl rfl rfl ?_
  refine op_nil ?_
  refine ax_then ?_
  refine At.regs (L' := [(3, _), (4, _), (5, _)]) (.cons rfl (.cons rfl (.cons rfl (.nil _)))) ?_
  refine cd_seq ?_
  refine cd_region ?_
  refine st (ev_move rfl) rfl rfl rfl ?_
  refine st (ev_slice_arr_all Try.underlying39 ty5 rfl) rfl rfl rfl ?_
  refine st_appendi (h := 6) Try.underlying22 Try.underlying22 ty5 rfl rfl rfl rfl (fun w1 sw => rd_blk_all sw (h := 3) rfl (by first | omega | (simp only [List.length_append, List.length_cons, List.length_nil, List.length_set, List.length_replicate, List.length_take, List.length_drop, ints_length, wr_length, node_len] <;> omega) | rfl)) (by first | omega | (simp only [List.length_append, List.length_cons, List.length_nil, List.length_set, List.length_replicate, List.length_take, List.length_drop, ints_length, wr_length, node_len] <;> omega)) (by decide) rfl rfl (fun v11 => ?_)
  refine st_callv has80 rfl (fun w1 sw => rsum_any v11 ([3] ++ a ++ b) w1 (by simp only [List.length_append, List.length_cons, List.length_nil]; omega) (sw.own_rd (h := 6) rfl)) rfl rfl ?_
  refine at_eq (i := 12) (v' := .agg (ints .u8 (node a b)).toArray) rfl rfl ?_
  refine st_store_all 4 ty39 rfl rfl rfl rfl (by first | omega | (simp only [List.length_append, List.length_cons, List.length_nil, List.length_set, List.length_replicate, List.length_take, List.length_drop, ints_length, wr_length, node_len] <;> omega) | rfl) (ints_one _ _) (by first | omega | (simp only [List.length_append, List.length_cons, List.length_nil, List.length_set, List.length_replicate, List.length_take, List.length_drop, ints_length, wr_length, node_len] <;> omega) | rfl) rfl ?_
  refine op_nil ?_
  refine ax_then ?_
  refine At.regs (L' := [(4, _)]) (.cons rfl (.nil _)) ?_
  refine cd_ret ?_
  refine rt_cell (h0 := 4) (.inl rfl) Try.results82 ty39 rfl rfl rfl (by first | omega | (simp only [List.length_append, List.length_cons, List.length_nil, List.length_set, List.length_replicate, List.length_take, List.length_drop, ints_length, wr_length, node_len] <;> omega) | rfl) ?_
  exact fun w1 sw => ⟨rfl, sw.gives (.nil _)⟩

set_option maxRecDepth 20000 in
set_option maxHeartbeats 2000000 in
theorem root_step (N : Nat) (ih : ∀ (p : Value) (cs : List (List Int)) (w : World), cs.length < N → H32 cs → cs.length ≤ 256 → Rd w p 32 (flat cs) → Calls Try.prog 51 #[p] w (PostV w (.agg (ints .u8 (root cs)).toArray))) (p : Value) (cs : List (List Int)) (w : World) (hN : cs.length = N) (hu : H32 cs) (hcl : cs.length ≤ 256) (h : Rd w p 32 (flat cs)) : Calls Try.prog 51 #[p] w (PostV w (.agg (ints .u8 (root cs)).toArray)) := by
  refine calls_at (vs := [p]) (X := []) (H := []) (F := [(0, .sl p 32 (flat (cs)))]) 26 Try.func51 rfl rfl rfl (Sat.rd0 0 h) ?_
  refine cd_seq ?_
  refine cd_region ?_
  refine st_alloc (h := 2) ty39 rfl rfl rfl (fun b2 => ?_)
  refine op_nil ?_
  refine ax_then ?_
  refine At.regs (L' := [(0, _), (2, _)]) (.cons rfl (.cons rfl (.nil _))) ?_
  refine cd_seq ?_
  refine cd_seq ?_
  refine cd_region ?_
  refine st (ev_move rfl) rfl rfl rfl ?_
  refine st (ev_len_rdh (h := 0) Try.underlying26 rfl rfl (by assumption)) rfl rfl rfl ?_
  refine op_nil ?_
  refine ax_then ?_
  refine At.regs (L' := [(0, _), (2, _), (5, _)]) (.cons rfl (.cons rfl (.cons rfl (.nil _)))) ?_
  refine cd_block ?_
  refine cd_seq ?_
  refine cd_region ?_
  refine st (ev_eql rfl rfl) rfl rfl rfl ?_
  refine st (ev_assign rfl) rfl rfl rfl ?_
  refine op_nil ?_
  refine ax_then ?_
  refine At.regs (L' := [(0, _), (2, _), (5, _), (6, _)]) (.cons rfl (.cons rfl (.cons rfl (.cons rfl (.nil _))))) ?_
  refine cd_if rfl (fun hc6 => ?_) (fun hc6 => ?_)
  ·
    have hc0 : cs = [] := List.length_eq_zero_iff.1 (by omega)
    refine cd_seq ?_
    refine cd_region ?_
    refine st (ev_build_array ty39 rfl ty5 rfl rfl) rfl rfl rfl ?_
    refine st_store_all 2 ty39 rfl rfl rfl rfl (by first | omega | (simp only [List.length_append, List.length_cons, List.length_nil, List.length_set, List.length_replicate, List.length_take, List.length_drop, ints_length, wr_length, node_len] <;> omega) | rfl) (ints_one _ _) (by first | omega | (simp only [List.length_append, List.length_cons, List.length_nil, List.length_set, List.length_replicate, List.length_take, List.length_drop, ints_length, wr_length, node_len] <;> omega) | rfl) rfl ?_
    refine op_nil ?_
    refine ax_then ?_
    refine At.regs (L' := [(0, _), (2, _)]) (.cons rfl (.cons rfl (.nil _))) ?_
    refine cd_ret ?_
    refine ax_block_ret ?_
    refine ax_then_ret ?_
    refine rt_cell (h0 := 2) (.inl rfl) Try.results51 ty39 rfl rfl rfl (by first | omega | (simp only [List.length_append, List.length_cons, List.length_nil, List.length_set, List.length_replicate, List.length_take, List.length_drop, ints_length, wr_length, node_len] <;> omega) | rfl) ?_
    exact fun w1 sw => ⟨by rw [hc0, root_nil], sw.gives (.nil _)⟩
  ·
    refine cd_seq ?_
    refine cd_region ?_
    refine st (ev_eql rfl rfl) rfl rfl rfl ?_
    refine st (ev_assign rfl) rfl rfl rfl ?_
    refine op_nil ?_
    refine ax_then ?_
    refine At.regs (L' := [(0, _), (2, _), (9, _)]) (.cons rfl (.cons rfl (.cons rfl (.nil _)))) ?_
    refine cd_if rfl (fun hc9 => ?_) (fun hc9 => ?_)
    ·
      have hg : (cs.getD (Int.toNat 0) []).length = 32 := hu.get (by show 0 < _; omega)
      have hr1 := root_small (cs := cs) (by omega)
      refine cd_seq ?_
      refine cd_region ?_
      refine st (ev_move rfl) rfl rfl rfl ?_
      refine st (ev_indexAddr_rdh (h := 0) Try.underlying26 ty39 rfl rfl rfl (by assumption) (by omega) (by omega)) rfl rfl rfl ?_
      refine st (ld_rdh (h := 0) ty39 rfl rfl rfl (by assumption) (by omega)) rfl rfl rfl ?_
      refine st_store_all 2 ty39 rfl rfl rfl rfl (by first | omega | (simp only [List.length_append, List.length_cons, List.length_nil, List.length_set, List.length_replicate, List.length_take, List.length_drop, ints_length, wr_length, node_len] <;> omega) | rfl) (ints_one _ _) (by first | omega | (simp only [List.length_append, List.length_cons, List.length_nil, List.length_set, List.length_replicate, List.length_take, List.length_drop, ints_length, wr_length, node_len] <;> omega) | rfl) rfl ?_
      refine op_nil ?_
      refine ax_then ?_
      refine At.regs (L' := [(0, _), (2, _)]) (.cons rfl (.cons rfl (.nil _))) ?_
      refine cd_ret ?_
      refine ax_block_ret ?_
      refine ax_then_ret ?_
      refine rt_cell (h0 := 2) (.inl rfl) Try.results51 ty39 rfl rfl rfl (by first | omega | (simp only [List.length_append, List.length_cons, List.length_nil, List.length_set, List.length_replicate, List.length_take, List.length_drop, ints_length, wr_length, node_len] <;> omega) | rfl) ?_
      exact fun w1 sw => ⟨by rw [hr1]; rfl, sw.gives (.nil _)⟩
    ·
      have hge : 2 ≤ cs.length := by omega
      have hlt := half_lt hge
      have hps := half_pos cs.length
      refine cd_skip ?_
      refine ax_block ?_
      refine ax_then ?_
      refine At.regs (L' := [(0, _), (2, _)]) (.cons rfl (.cons rfl (.nil _))) ?_
      refine cd_seq ?_
      refine cd_region ?_
      refine st (ev_move rfl) rfl rfl rfl ?_
      refine st (ev_len_rdh (h := 0) Try.underlying26 rfl rfl (by assumption)) rfl rfl rfl ?_
      refine at_eq (i := 15) (v' := .int .i64 (cs.length : Int)) rfl rfl ?_
      refine st_callv has84 rfl (fun w1 sw => half_any cs.length w1 hge (by omega)) rfl rfl ?_
      refine st (ev_assign rfl) rfl rfl rfl ?_
      refine op_nil ?_
      refine ax_then ?_
      refine At.regs (L' := [(0, _), (2, _), (3, _)]) (.cons rfl (.cons rfl (.cons rfl (.nil _)))) ?_
      refine cd_seq ?_
      refine cd_open_tail 9 hmix (by decide +kernel) ?_
      refine qt (ev_move rfl) rfl rfl rfl ?_
      refine qt (ev_move rfl) rfl rfl rfl ?_
      refine qt (ev_sliceh_hi Try.underlying26 ty39 rfl rfl (fun w1 sw => sw.sl_rd (h := 0) rfl) (by assumption) (by omega) (by first | omega | (simp only [List.length_append, List.length_cons, List.length_nil, List.length_set, List.length_replicate, List.length_take, List.length_drop, ints_length, wr_length, node_len] <;> omega))) rfl rfl rfl ?_
      refine qt_eq (i := 19) (v' := cutAt 32 p 0 (half cs.length)) rfl (by rw [Int.toNat_natCast]) ?_
      refine qt_callv has51 rfl (fun w1 sw => ih (cutAt 32 p 0 (half cs.length)) (cs.take (half cs.length)) w1 (by rw [List.length_take]; omega) (hu.take _) (by rw [List.length_take]; omega) (takeh (sw.sl_rd (h := 0) rfl) hu (by omega))) rfl rfl ?_
      refine qt (ev_move rfl) rfl rfl rfl ?_
      refine qt (ev_move rfl) rfl rfl rfl ?_
      refine qt (ev_sliceh_lo Try.underlying26 ty39 rfl rfl (fun w1 sw => sw.sl_rd (h := 0) rfl) (by assumption) (by omega) (by first | omega | (simp only [List.length_append, List.length_cons, List.length_nil, List.length_set, List.length_replicate, List.length_take, List.length_drop, ints_length, wr_length, node_len] <;> omega))) rfl rfl rfl ?_
      refine qt_eq (i := 23) (v' := cutAt 32 p (half cs.length) cs.length) rfl (by rw [Int.toNat_natCast]) ?_
      refine qt_callv has51 rfl (fun w1 sw => ih (cutAt 32 p (half cs.length) cs.length) (cs.drop (half cs.length)) w1 (by rw [List.length_drop]; omega) (hu.drop _) (by rw [List.length_drop]; omega) (droph (sw.sl_rd (h := 0) rfl) hu (by omega))) rfl rfl ?_
      refine qt_callv has85 rfl (fun w1 sw => node_any (root (cs.take (half cs.length))) (root (cs.drop (half cs.length))) w1 (root_len (hu.take _)) (root_len (hu.drop _))) rfl rfl ?_
      refine qt_end ?_
      refine st_store_all 2 ty39 rfl rfl rfl rfl (by first | omega | (simp only [List.length_append, List.length_cons, List.length_nil, List.length_set, List.length_replicate, List.length_take, List.length_drop, ints_length, wr_length, node_len] <;> omega) | rfl) (ints_one _ _) (by first | omega | (simp only [List.length_append, List.length_cons, List.length_nil, List.length_set, List.length_replicate, List.length_take, List.length_drop, ints_length, wr_length, node_len] <;> omega) | rfl) rfl ?_
      refine op_nil ?_
      refine ax_then ?_
      refine At.regs (L' := [(2, _)]) (.cons rfl (.nil _)) ?_
      refine cd_ret ?_
      refine rt_cell (h0 := 2) (.inl rfl) Try.results51 ty39 rfl rfl rfl (by first | omega | (simp only [List.length_append, List.length_cons, List.length_nil, List.length_set, List.length_replicate, List.length_take, List.length_drop, ints_length, wr_length, node_len] <;> omega) | rfl) ?_
      exact fun w1 sw => ⟨by rw [root_two hge], sw.gives (.nil _)⟩

theorem root_all : ∀ (N : Nat) (p : Value) (cs : List (List Int)) (w : World), cs.length < N → H32 cs → cs.length ≤ 256 → Rd w p 32 (flat cs) → Calls Try.prog 51 #[p] w (PostV w (.agg (ints .u8 (root cs)).toArray))
  | 0, _, _, _, hN, _, _, _ => absurd hN (Nat.not_lt_zero _)
  | N + 1, p, cs, w, hN, hu, hcl, h => root_step cs.length (fun p' cs' w' h1 => root_all N p' cs' w' (by omega)) p cs w rfl hu hcl h
theorem root_any (p : Value) (cs : List (List Int)) (w : World) (hu : H32 cs) (hcl : cs.length ≤ 256) (h : Rd w p 32 (flat cs)) : Calls Try.prog 51 #[p] w (PostV w (.agg (ints .u8 (root cs)).toArray)) := root_all (cs.length + 1) p cs w (by omega) hu hcl h

set_option maxRecDepth 20000 in
set_option maxHeartbeats 2000000 in
theorem rroot_step (N : Nat) (ih : ∀ (p : Value) (cs : List (List Int)) (w : World), cs.length < N → H32 cs → cs.length ≤ 256 → Rd w p 32 (flat cs) → Calls Try.prog 49 #[p] w (PostV w (.agg (ints .u8 (root cs)).toArray))) (p : Value) (cs : List (List Int)) (w : World) (hN : cs.length = N) (hu : H32 cs) (hcl : cs.length ≤ 256) (h : Rd w p 32 (flat cs)) : Calls Try.prog 49 #[p] w (PostV w (.agg (ints .u8 (root cs)).toArray)) := by
  refine calls_at (vs := [p]) (X := []) (H := []) (F := [(0, .sl p 32 (flat (cs)))]) 26 Try.func49 rfl rfl rfl (Sat.rd0 0 h) ?_
  refine cd_seq ?_
  refine cd_region ?_
  refine st_alloc (h := 2) ty39 rfl rfl rfl (fun b2 => ?_)
  refine op_nil ?_
  refine ax_then ?_
  refine At.regs (L' := [(0, _), (2, _)]) (.cons rfl (.cons rfl (.nil _))) ?_
  refine cd_seq ?_
  refine cd_seq ?_
  refine cd_region ?_
  refine st (ev_move rfl) rfl rfl rfl ?_
  refine st (ev_len_rdh (h := 0) Try.underlying26 rfl rfl (by assumption)) rfl rfl rfl ?_
  refine op_nil ?_
  refine ax_then ?_
  refine At.regs (L' := [(0, _), (2, _), (5, _)]) (.cons rfl (.cons rfl (.cons rfl (.nil _)))) ?_
  refine cd_block ?_
  refine cd_seq ?_
  refine cd_region ?_
  refine st (ev_eql rfl rfl) rfl rfl rfl ?_
  refine st (ev_assign rfl) rfl rfl rfl ?_
  refine op_nil ?_
  refine ax_then ?_
  refine At.regs (L' := [(0, _), (2, _), (5, _), (6, _)]) (.cons rfl (.cons rfl (.cons rfl (.cons rfl (.nil _))))) ?_
  refine cd_if rfl (fun hc6 => ?_) (fun hc6 => ?_)
  ·
    have hc0 : cs = [] := List.length_eq_zero_iff.1 (by omega)
    refine cd_seq ?_
    refine cd_region ?_
    refine st (ev_build_array ty39 rfl ty5 rfl rfl) rfl rfl rfl ?_
    refine st_store_all 2 ty39 rfl rfl rfl rfl (by first | omega | (simp only [List.length_append, List.length_cons, List.length_nil, List.length_set, List.length_replicate, List.length_take, List.length_drop, ints_length, wr_length, node_len] <;> omega) | rfl) (ints_one _ _) (by first | omega | (simp only [List.length_append, List.length_cons, List.length_nil, List.length_set, List.length_replicate, List.length_take, List.length_drop, ints_length, wr_length, node_len] <;> omega) | rfl) rfl ?_
    refine op_nil ?_
    refine ax_then ?_
    refine At.regs (L' := [(0, _), (2, _)]) (.cons rfl (.cons rfl (.nil _))) ?_
    refine cd_ret ?_
    refine ax_block_ret ?_
    refine ax_then_ret ?_
    refine rt_cell (h0 := 2) (.inl rfl) Try.results49 ty39 rfl rfl rfl (by first | omega | (simp only [List.length_append, List.length_cons, List.length_nil, List.length_set, List.length_replicate, List.length_take, List.length_drop, ints_length, wr_length, node_len] <;> omega) | rfl) ?_
    exact fun w1 sw => ⟨by rw [hc0, root_nil], sw.gives (.nil _)⟩
  ·
    refine cd_seq ?_
    refine cd_region ?_
    refine st (ev_eql rfl rfl) rfl rfl rfl ?_
    refine st (ev_assign rfl) rfl rfl rfl ?_
    refine op_nil ?_
    refine ax_then ?_
    refine At.regs (L' := [(0, _), (2, _), (9, _)]) (.cons rfl (.cons rfl (.cons rfl (.nil _)))) ?_
    refine cd_if rfl (fun hc9 => ?_) (fun hc9 => ?_)
    ·
      have hg : (cs.getD (Int.toNat 0) []).length = 32 := hu.get (by show 0 < _; omega)
      have hr1 := root_small (cs := cs) (by omega)
      refine cd_seq ?_
      refine cd_region ?_
      refine st (ev_move rfl) rfl rfl rfl ?_
      refine st (ev_indexAddr_rdh (h := 0) Try.underlying26 ty39 rfl rfl rfl (by assumption) (by omega) (by omega)) rfl rfl rfl ?_
      refine st (ld_rdh (h := 0) ty39 rfl rfl rfl (by assumption) (by omega)) rfl rfl rfl ?_
      refine st_store_all 2 ty39 rfl rfl rfl rfl (by first | omega | (simp only [List.length_append, List.length_cons, List.length_nil, List.length_set, List.length_replicate, List.length_take, List.length_drop, ints_length, wr_length, node_len] <;> omega) | rfl) (ints_one _ _) (by first | omega | (simp only [List.length_append, List.length_cons, List.length_nil, List.length_set, List.length_replicate, List.length_take, List.length_drop, ints_length, wr_length, node_len] <;> omega) | rfl) rfl ?_
      refine op_nil ?_
      refine ax_then ?_
      refine At.regs (L' := [(0, _), (2, _)]) (.cons rfl (.cons rfl (.nil _))) ?_
      refine cd_ret ?_
      refine ax_block_ret ?_
      refine ax_then_ret ?_
      refine rt_cell (h0 := 2) (.inl rfl) Try.results49 ty39 rfl rfl rfl (by first | omega | (simp only [List.length_append, List.length_cons, List.length_nil, List.length_set, List.length_replicate, List.length_take, List.length_drop, ints_length, wr_length, node_len] <;> omega) | rfl) ?_
      exact fun w1 sw => ⟨by rw [hr1]; rfl, sw.gives (.nil _)⟩
    ·
      have hge : 2 ≤ cs.length := by omega
      have hlt := half_lt hge
      have hps := half_pos cs.length
      refine cd_skip ?_
      refine ax_block ?_
      refine ax_then ?_
      refine At.regs (L' := [(0, _), (2, _)]) (.cons rfl (.cons rfl (.nil _))) ?_
      refine cd_seq ?_
      refine cd_region ?_
      refine st (ev_move rfl) rfl rfl rfl ?_
      refine st (ev_len_rdh (h := 0) Try.underlying26 rfl rfl (by assumption)) rfl rfl rfl ?_
      refine at_eq (i := 15) (v' := .int .i64 (cs.length : Int)) rfl rfl ?_
      refine st_callv has81 rfl (fun w1 sw => rhalf_any cs.length w1 hge (by omega)) rfl rfl ?_
      refine st (ev_assign rfl) rfl rfl rfl ?_
      refine op_nil ?_
      refine ax_then ?_
      refine At.regs (L' := [(0, _), (2, _), (3, _)]) (.cons rfl (.cons rfl (.cons rfl (.nil _)))) ?_
      refine cd_seq ?_
      refine cd_open_tail 9 hmix (by decide +kernel) ?_
      refine qt (ev_move rfl) rfl rfl rfl ?_
      refine qt (ev_move rfl) rfl rfl rfl ?_
      refine qt (ev_sliceh_hi Try.underlying26 ty39 rfl rfl (fun w1 sw => sw.sl_rd (h := 0) rfl) (by assumption) (by omega) (by first | omega | (simp only [List.length_append, List.length_cons, List.length_nil, List.length_set, List.length_replicate, List.length_take, List.length_drop, ints_length, wr_length, node_len] <;> omega))) rfl rfl rfl ?_
      refine qt_eq (i := 19) (v' := cutAt 32 p 0 (half cs.length)) rfl (by rw [Int.toNat_natCast]) ?_
      refine qt_callv has49 rfl (fun w1 sw => ih (cutAt 32 p 0 (half cs.length)) (cs.take (half cs.length)) w1 (by rw [List.length_take]; omega) (hu.take _) (by rw [List.length_take]; omega) (takeh (sw.sl_rd (h := 0) rfl) hu (by omega))) rfl rfl ?_
      refine qt (ev_move rfl) rfl rfl rfl ?_
      refine qt (ev_move rfl) rfl rfl rfl ?_
      refine qt (ev_sliceh_lo Try.underlying26 ty39 rfl rfl (fun w1 sw => sw.sl_rd (h := 0) rfl) (by assumption) (by omega) (by first | omega | (simp only [List.length_append, List.length_cons, List.length_nil, List.length_set, List.length_replicate, List.length_take, List.length_drop, ints_length, wr_length, node_len] <;> omega))) rfl rfl rfl ?_
      refine qt_eq (i := 23) (v' := cutAt 32 p (half cs.length) cs.length) rfl (by rw [Int.toNat_natCast]) ?_
      refine qt_callv has49 rfl (fun w1 sw => ih (cutAt 32 p (half cs.length) cs.length) (cs.drop (half cs.length)) w1 (by rw [List.length_drop]; omega) (hu.drop _) (by rw [List.length_drop]; omega) (droph (sw.sl_rd (h := 0) rfl) hu (by omega))) rfl rfl ?_
      refine qt_callv has82 rfl (fun w1 sw => rnode_any (root (cs.take (half cs.length))) (root (cs.drop (half cs.length))) w1 (root_len (hu.take _)) (root_len (hu.drop _))) rfl rfl ?_
      refine qt_end ?_
      refine st_store_all 2 ty39 rfl rfl rfl rfl (by first | omega | (simp only [List.length_append, List.length_cons, List.length_nil, List.length_set, List.length_replicate, List.length_take, List.length_drop, ints_length, wr_length, node_len] <;> omega) | rfl) (ints_one _ _) (by first | omega | (simp only [List.length_append, List.length_cons, List.length_nil, List.length_set, List.length_replicate, List.length_take, List.length_drop, ints_length, wr_length, node_len] <;> omega) | rfl) rfl ?_
      refine op_nil ?_
      refine ax_then ?_
      refine At.regs (L' := [(2, _)]) (.cons rfl (.nil _)) ?_
      refine cd_ret ?_
      refine rt_cell (h0 := 2) (.inl rfl) Try.results49 ty39 rfl rfl rfl (by first | omega | (simp only [List.length_append, List.length_cons, List.length_nil, List.length_set, List.length_replicate, List.length_take, List.length_drop, ints_length, wr_length, node_len] <;> omega) | rfl) ?_
      exact fun w1 sw => ⟨by rw [root_two hge], sw.gives (.nil _)⟩

theorem rroot_all : ∀ (N : Nat) (p : Value) (cs : List (List Int)) (w : World), cs.length < N → H32 cs → cs.length ≤ 256 → Rd w p 32 (flat cs) → Calls Try.prog 49 #[p] w (PostV w (.agg (ints .u8 (root cs)).toArray))
  | 0, _, _, _, hN, _, _, _ => absurd hN (Nat.not_lt_zero _)
  | N + 1, p, cs, w, hN, hu, hcl, h => rroot_step cs.length (fun p' cs' w' h1 => rroot_all N p' cs' w' (by omega)) p cs w rfl hu hcl h
theorem rroot_any (p : Value) (cs : List (List Int)) (w : World) (hu : H32 cs) (hcl : cs.length ≤ 256) (h : Rd w p 32 (flat cs)) : Calls Try.prog 49 #[p] w (PostV w (.agg (ints .u8 (root cs)).toArray)) := rroot_all (cs.length + 1) p cs w (by omega) hu hcl h

end Go.Proofs.Yteedclmcgifmpaa
