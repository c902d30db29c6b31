/- Walks: Sum. -/
import Derived.Test.YteedclmcgifmpaaShaA
import Derived.Test.YteedclmcgifmpaaD1
namespace Go.Proofs.Yteedclmcgifmpaa
open Go Go.RowKit Fw
open Sha
set_option linter.unusedVariables false
set_option linter.unusedSimpArgs false

set_option maxRecDepth 20000 in
set_option maxHeartbeats 1000000 in
theorem numbers_any (w : World) : Calls Try.prog 100 #[] w (PostV w (.agg (ints .u32 K).toArray)) := by
  refine calls_at (vs := []) (X := []) (H := []) (F := []) 2 Try.func100 rfl rfl rfl (Sat.start0 w) ?_
  refine cd_seq ?_
  refine cd_region ?_
  refine st_alloc (h := 0) ty128 rfl rfl rfl (fun b0 => ?_)
  refine op_nil ?_
  refine ax_then ?_
  refine At.regs (L' := [(0, _)]) (.cons rfl (.nil _)) ?_
  refine cd_seq ?_
  refine cd_region ?_
  refine st (ev_build_ints (xs := [_, _, _, _, _, _, _, _, _, _, _, _, _, _, _, _, _, _, _, _, _, _, _, _, _, _, _, _, _, _, _, _, _, _, _, _, _, _, _, _, _, _, _, _, _, _, _, _, _, _, _, _, _, _, _, _, _, _, _, _, _, _, _, _]) (zs := List.replicate 64 0) ty128 rfl ty126 rfl rfl rfl rfl rfl) rfl rfl rfl ?_
  refine st_store_all 0 ty128 rfl rfl rfl rfl (by first | omega | (simp only [List.length_append, List.length_cons, List.length_nil, List.length_set, List.length_replicate, List.length_take, List.length_drop, ints_length, wr_length] <;> omega) | rfl) (ints_one _ _) (by first | omega | (simp only [List.length_append, List.length_cons, List.length_nil, List.length_set, List.length_replicate, List.length_take, List.length_drop, ints_length, wr_length] <;> omega) | rfl) rfl ?_
  refine op_nil ?_
  refine ax_then ?_
  refine At.regs (L' := [(0, _)]) (.cons rfl (.nil _)) ?_
  refine cd_ret ?_
  refine rt_cell (h0 := 0) (.inl rfl) Try.results100 ty128 rfl rfl rfl (by first | omega | (simp only [List.length_append, List.length_cons, List.length_nil, List.length_set, List.length_replicate, List.length_take, List.length_drop, ints_length, wr_length] <;> omega) | rfl) ?_
  exact fun w1 sw => ⟨rfl, by have g := sw.gives (.nil _); exact g⟩

set_option maxRecDepth 20000 in
set_option maxHeartbeats 4000000 in
theorem sum_any (p : Value) (l : List Int) (w : World) (hl : l.length ≤ 1000000000) (h : Rd w p 1 (ints .u8 l)) : Calls Try.prog 83 #[p] w (PostV w (.agg (ints .u8 (sha l)).toArray)) := by
  refine calls_at (vs := [p]) (X := []) (H := []) (F := [(0, .sl p 1 (ints .u8 l))]) 90 Try.func83 rfl rfl rfl (Sat.rd0 0 h) ?_
  refine cd_seq ?_
  refine cd_region ?_
  refine st_alloc (h := 2) ty39 rfl rfl rfl (fun b2 => ?_)
  refine op_nil ?_
  refine ax_then ?_
  refine At.regs (L' := [(0, _), (2, _)]) (.cons rfl (.cons rfl (.nil _))) ?_
  refine cd_seq ?_
  refine cd_region ?_
  refine st (ev_build_ints (xs := [_, _, _, _, _, _, _, _]) (zs := List.replicate 8 0) ty132 rfl ty126 rfl rfl rfl rfl rfl) rfl rfl rfl ?_
  refine st_alloc (h := 3) ty132 rfl rfl rfl (fun b3 => ?_)
  refine st_store_all 3 ty132 rfl rfl rfl rfl (by first | omega | (simp only [List.length_append, List.length_cons, List.length_nil, List.length_set, List.length_replicate, List.length_take, List.length_drop, ints_length, wr_length] <;> omega) | rfl) (ints_one _ _) (by first | omega | (simp only [List.length_append, List.length_cons, List.length_nil, List.length_set, List.length_replicate, List.length_take, List.length_drop, ints_length, wr_length] <;> omega) | rfl) rfl ?_
  refine op_nil ?_
  refine ax_then ?_
  refine At.regs (L' := [(0, _), (2, _), (3, _)]) (.cons rfl (.cons rfl (.cons rfl (.nil _)))) ?_
  refine cd_seq ?_
  refine cd_region ?_
  refine st_callv has100 rfl (fun w1 sw => numbers_any w1) rfl rfl ?_
  refine st_alloc (h := 4) ty128 rfl rfl rfl (fun b4 => ?_)
  refine st_store_all 4 ty128 rfl rfl rfl rfl (by first | omega | (simp only [List.length_append, List.length_cons, List.length_nil, List.length_set, List.length_replicate, List.length_take, List.length_drop, ints_length, wr_length] <;> omega) | rfl) (ints_one _ _) (by first | omega | (simp only [List.length_append, List.length_cons, List.length_nil, List.length_set, List.length_replicate, List.length_take, List.length_drop, ints_length, wr_length] <;> omega) | rfl) rfl ?_
  refine op_nil ?_
  refine ax_then ?_
  refine At.regs (L' := [(0, _), (2, _), (3, _), (4, _)]) (.cons rfl (.cons rfl (.cons rfl (.cons rfl (.nil _))))) ?_
  refine cd_seq ?_
  refine cd_region ?_
  refine st (ev_move rfl) rfl rfl rfl ?_
  refine st (ev_assign rfl) rfl rfl rfl ?_
  refine op_nil ?_
  refine ax_then ?_
  refine At.regs (L' := [(0, _), (2, _), (3, _), (4, _), (5, _)]) (.cons rfl (.cons rfl (.cons rfl (.cons rfl (.cons rfl (.nil _)))))) ?_
  refine cd_seq ?_
  refine cd_block ?_
  refine at_alias (h := 0) 5 rfl ?_
  refine cd_loop (ι := Nat × Value) (fun x => 64 * x.1 ≤ l.length) (fun x => l.length - 64 * x.1)
      (fun x => [(0, p), (2, .pointer (some ⟨b2, 0, none⟩)), (3, .pointer (some ⟨b3, 0, none⟩)), (4, .pointer (some ⟨b4, 0, none⟩)), (5, x.2)])
      (fun x => [(2, .blk b2 (.cells (ints .u8 (List.replicate 32 0)).toArray 39)), (3, .blk b3 (.cells (ints .u32 (absorb S0 l x.1)).toArray 132)), (4, .blk b4 (.cells (ints .u32 (K)).toArray 128))])
      (fun x => [(0, .sl p 1 (ints .u8 l)), (5, .sl x.2 1 (ints .u8 (l.drop (64 * x.1))))])
      (0, p) (by simp) (.cons rfl (.cons rfl (.cons rfl (.cons rfl (.cons rfl (.nil _)))))) (.cons rfl (.cons rfl (.cons rfl (.nil _)))) (.cons rfl (.cons rfl (.nil _))) (fun x hi => ?_)
  refine cd_seq ?_
  refine cd_seq ?_
  refine cd_region ?_
  refine st (ev_move rfl) rfl rfl rfl ?_
  refine st (ev_len_rdi (h := 5) Try.underlying22 rfl rfl) rfl rfl rfl ?_
  refine st (ev_geq rfl rfl) rfl rfl rfl ?_
  refine op_nil ?_
  refine ax_then ?_
  refine At.regs (L' := [(0, _), (2, _), (3, _), (4, _), (5, _), (17, _), (18, _), (19, _)]) (.cons rfl (.cons rfl (.cons rfl (.cons rfl (.cons rfl (.cons rfl (.cons rfl (.cons rfl (.nil _))))))))) ?_
  refine cd_if rfl (fun hc19 => ?_) (fun hc19 => ?_)
  ·
    refine cd_skip ?_
    refine ax_then ?_
    refine At.regs (L' := [(0, _), (2, _), (3, _), (4, _), (5, _), (17, _), (18, _), (19, _)]) (.cons rfl (.cons rfl (.cons rfl (.cons rfl (.cons rfl (.cons rfl (.cons rfl (.cons rfl (.nil _))))))))) ?_
    refine cd_seq ?_
    refine cd_block ?_
    refine cd_region ?_
    refine st (ev_move rfl) rfl rfl rfl ?_
    refine st_call has101 rfl (fun w1 sw => rn 3 (take_any b3 b4 132 (x.2) _ (l.drop (64 * x.1)) K w1 (by simp only [absorb_len]; rfl) rfl (by simp only [List.length_drop] at hc19 ⊢; omega) (sw.blk_eq (h := 3) rfl) (sw.sl_rd (h := 5) rfl) (lies_blk (sw.blk_eq (h := 4) rfl)) (sw.off_sl (f := 5) (h := 3) rfl rfl (by simp [Ent.ids]) (by intro hn; have := congrArg List.length hn; simp only [ints_length, List.length_drop, List.length_nil] at hc19 this; omega)) (sw.ne_blk (h := 3) (h' := 4) rfl rfl (by decide)))) (mod_blk rfl) rfl rfl (fun _ _ => ?_)
    refine op_nil ?_
    refine ax_block ?_
    refine ax_then ?_
    refine At.regs (L' := [(0, _), (2, _), (3, _), (4, _), (5, _), (17, _), (18, _), (19, _), (22, _)]) (.cons rfl (.cons rfl (.cons rfl (.cons rfl (.cons rfl (.cons rfl (.cons rfl (.cons rfl (.cons rfl (.nil _)))))))))) ?_
    refine cd_region ?_
    refine st (ev_move rfl) rfl rfl rfl ?_
    refine st (ev_slicei_lo (l := l.drop (64 * x.1)) Try.underlying22 ty5 rfl rfl (fun w1 sw => sw.sl_rd (h := 5) rfl) (by omega) (by simp only [List.length_drop] at hc19 ⊢; omega)) rfl rfl rfl ?_
    refine at_cuti (h := 5) (lo := 64) (hi := (l.drop (64 * x.1)).length) 5 rfl (by simp only [List.length_drop] at hc19 ⊢; omega) (Nat.le_refl _) ?_
    refine at_feq (i := 5) (v' := .sl (cutAt 1 x.2 64 (l.drop (64 * x.1)).length) 1 (ints .u8 (l.drop (64 * (x.1 + 1))))) rfl (by rw [List.drop_drop, List.take_of_length_le (by simp only [List.length_drop]; omega)]; rfl) ?_
    refine st (ev_assign rfl) rfl rfl rfl ?_
    refine op_nil ?_
    exact at_again ((x.1 + 1, cutAt 1 x.2 64 (l.drop (64 * x.1)).length)) (by simp only [List.length_drop] at hc19; omega) (by simp only [List.length_drop] at hc19; omega) (.cons rfl (.cons rfl (.cons rfl (.cons rfl (.cons rfl (.nil _)))))) (.cons rfl (.cons rfl (.cons rfl (.nil _)))) (.cons rfl (.cons rfl (.nil _)))
  ·
    obtain ⟨j, v⟩ := x
    simp only [List.length_drop] at hi hc19
    obtain rfl : j = l.length / 64 := by omega
    have hrl : (l.drop (64 * (l.length / 64))).length < 64 := by simp only [List.length_drop]; omega
    dsimp only
    generalize hr : l.drop (64 * (l.length / 64)) = r at hrl ⊢
    have hen : en r.length = 64 ∨ en r.length = 128 := by unfold en; split <;> simp
    refine cd_exit ?_
    refine ax_then_exit ?_
    refine ax_then_exit ?_
    refine ax_block_hit ?_
    refine ax_then ?_
    refine At.regs (L' := [(0, _), (2, _), (3, _), (4, _), (5, _)]) (.cons rfl (.cons rfl (.cons rfl (.cons rfl (.cons rfl (.nil _)))))) ?_
    refine cd_seq ?_
    refine cd_region ?_
    refine st_alloc (h := 6) ty134 rfl rfl rfl (fun b6 => ?_)
    refine op_nil ?_
    refine ax_then ?_
    refine At.regs (L' := [(0, _), (2, _), (3, _), (4, _), (5, _), (6, _)]) (.cons rfl (.cons rfl (.cons rfl (.cons rfl (.cons rfl (.cons rfl (.nil _))))))) ?_
    refine cd_seq ?_
    refine cd_region ?_
    refine st (ev_slice_arr_all Try.underlying134 ty5 rfl) rfl rfl rfl ?_
    refine st (ev_move rfl) rfl rfl rfl ?_
    refine st_copy (n := r.length) 6 Try.underlying22 ty5 rfl rfl rfl (fun w1 sw => sw.sl_rd (h := 5) rfl) (by decide) (by first | omega | (simp only [List.length_append, List.length_cons, List.length_nil, List.length_set, List.length_replicate, List.length_take, List.length_drop, ints_length, wr_length] <;> omega) | rfl) (by first | omega | (simp only [List.length_append, List.length_cons, List.length_nil, List.length_set, List.length_replicate, List.length_take, List.length_drop, ints_length, wr_length] <;> omega) | rfl) (ints_one _ _) rfl rfl ?_
    refine at_eq (i := 26) (v' := .int .i64 (r.length : Nat)) rfl (by rw [Nat.min_eq_left (by omega)]) ?_
    refine at_heq (i := 6) (v' := .blk b6 (.cells (ints .u8 (r ++ List.replicate (128 - r.length) 0)).toArray 134)) rfl (by rw [copied r hrl]) ?_
    refine st (ev_assign rfl) rfl rfl rfl ?_
    refine op_nil ?_
    refine ax_then ?_
    refine At.regs (L' := [(0, _), (2, _), (3, _), (4, _), (6, _), (7, _)]) (.cons rfl (.cons rfl (.cons rfl (.cons rfl (.cons rfl (.cons rfl (.nil _))))))) ?_
    refine cd_seq ?_
    refine cd_region ?_
    refine st (ev_move rfl) rfl rfl rfl ?_
    refine st (ev_indexAddr_arr Try.underlying134 ty5 rfl rfl (by omega) (by omega)) rfl rfl rfl ?_
    refine st_store1 6 ty5 rfl rfl rfl rfl (by first | omega | (simp only [List.length_append, List.length_cons, List.length_nil, List.length_set, List.length_replicate, List.length_take, List.length_drop, ints_length, wr_length] <;> omega) | rfl) rfl ?_
    refine at_heq (i := 6) rfl (by rw [ints_set]) ?_
    refine at_heq (i := 6) (v' := .blk b6 (.cells (ints .u8 (base r)).toArray 134)) rfl (by rw [based]) ?_
    refine op_nil ?_
    refine ax_then ?_
    refine At.regs (L' := [(0, _), (2, _), (3, _), (4, _), (6, _), (7, _)]) (.cons rfl (.cons rfl (.cons rfl (.cons rfl (.cons rfl (.cons rfl (.nil _))))))) ?_
    refine cd_seq ?_
    refine cd_region ?_
    refine st (ev_assign rfl) rfl rfl rfl ?_
    refine op_nil ?_
    refine ax_then ?_
    refine At.regs (L' := [(0, _), (2, _), (3, _), (4, _), (6, _), (7, _), (8, _)]) (.cons rfl (.cons rfl (.cons rfl (.cons rfl (.cons rfl (.cons rfl (.cons rfl (.nil _)))))))) ?_
    refine cd_join (ι := Unit) (fun _ => True) (fun _ => [(0, p), (2, .pointer (some ⟨b2, 0, none⟩)), (3, .pointer (some ⟨b3, 0, none⟩)), (4, .pointer (some ⟨b4, 0, none⟩)), (6, .pointer (some ⟨b6, 0, none⟩)), (8, .int .i64 (en r.length : Nat))]) (fun _ => [(2, .blk b2 (.cells (ints .u8 (List.replicate 32 0)).toArray 39)), (3, .blk b3 (.cells (ints .u32 (absorb S0 l (l.length / 64))).toArray 132)), (4, .blk b4 (.cells (ints .u32 (K)).toArray 128)), (6, .blk b6 (.cells (ints .u8 (base r)).toArray 134))]) (fun _ => [(0, .sl p 1 (ints .u8 l))]) ?_ (fun _ hj => ?_)
    ·
      refine cd_seq ?_
      refine cd_region ?_
      refine st (ev_move rfl) rfl rfl rfl ?_
      refine st (ev_geq rfl rfl) rfl rfl rfl ?_
      refine op_nil ?_
      refine ax_then ?_
      refine At.regs (L' := [(0, _), (2, _), (3, _), (4, _), (6, _), (8, _), (30, _)]) (.cons rfl (.cons rfl (.cons rfl (.cons rfl (.cons rfl (.cons rfl (.cons rfl (.nil _)))))))) ?_
      refine cd_if rfl (fun hc30 => ?_) (fun hc30 => ?_)
      ·
        refine cd_region ?_
        refine st (ev_assign rfl) rfl rfl rfl ?_
        refine op_nil ?_
        refine ax_eq (i := 8) (v' := .int .i64 (en r.length : Nat)) rfl (by rw [en, if_pos (by omega)]; rfl) ?_
        exact at_met (()) (trivial) (.cons rfl (.cons rfl (.cons rfl (.cons rfl (.cons rfl (.cons rfl (.nil _))))))) (.cons rfl (.cons rfl (.cons rfl (.cons rfl (.nil _))))) (.cons rfl (.nil _))
      ·
        refine cd_skip ?_
        refine ax_eq (i := 8) (v' := .int .i64 (en r.length : Nat)) rfl (by rw [en, if_neg (by omega)]; rfl) ?_
        exact at_met (()) (trivial) (.cons rfl (.cons rfl (.cons rfl (.cons rfl (.cons rfl (.cons rfl (.nil _))))))) (.cons rfl (.cons rfl (.cons rfl (.cons rfl (.nil _))))) (.cons rfl (.nil _))
    ·
      refine cd_seq ?_
      refine cd_region ?_
      refine st (ev_move rfl) rfl rfl rfl ?_
      refine st (ev_len_rdi (h := 0) Try.underlying22 rfl rfl) rfl rfl rfl ?_
      refine st (ev_convu64 Try.underlying3 Try.underlying121 rfl (by omega) (by omega)) rfl rfl rfl ?_
      refine st (ev_shl rfl rfl (by omega)) rfl rfl rfl ?_
      refine at_eq (i := 34) (v' := .int .u64 (8 * (l.length : Int))) rfl (by rw [ishl3 _ hl]) ?_
      refine st (ev_assign rfl) rfl rfl rfl ?_
      refine op_nil ?_
      refine ax_then ?_
      refine At.regs (L' := [(2, _), (3, _), (4, _), (6, _), (8, _), (9, _)]) (.cons rfl (.cons rfl (.cons rfl (.cons rfl (.cons rfl (.cons rfl (.nil _))))))) ?_
      refine cd_seq ?_
      refine cd_seq ?_
      refine cd_region ?_
      refine st (ev_move rfl) rfl rfl rfl ?_
      refine op_nil ?_
      refine ax_then ?_
      refine At.regs (L' := [(2, _), (3, _), (4, _), (6, _), (8, _), (9, _), (35, _)]) (.cons rfl (.cons rfl (.cons rfl (.cons rfl (.cons rfl (.cons rfl (.cons rfl (.nil _)))))))) ?_
      refine cd_block ?_
      refine cd_loop (ι := Nat) (fun i => i ≤ 8) (fun i => 8 - i)
          (fun i => [(2, .pointer (some ⟨b2, 0, none⟩)), (3, .pointer (some ⟨b3, 0, none⟩)), (4, .pointer (some ⟨b4, 0, none⟩)), (6, .pointer (some ⟨b6, 0, none⟩)), (8, .int .i64 (en r.length : Nat)), (9, .int .u64 (8 * (l.length : Int))), (35, .int .i64 (i : Int))])
          (fun i => [(2, .blk b2 (.cells (ints .u8 (List.replicate 32 0)).toArray 39)), (3, .blk b3 (.cells (ints .u32 (absorb S0 l (l.length / 64))).toArray 132)), (4, .blk b4 (.cells (ints .u32 (K)).toArray 128)), (6, .blk b6 (.cells (ints .u8 (sb (base r) (en r.length) (8 * (l.length : Int)) i)).toArray 134))])
          (fun i => [])
          0 (by omega) (.cons rfl (.cons rfl (.cons rfl (.cons rfl (.cons rfl (.cons rfl (.cons rfl (.nil _)))))))) (.cons rfl (.cons rfl (.cons rfl (.cons rfl (.nil _))))) (.nil _) (fun i hi => ?_)
      have hsb := sb_len (base r) (en r.length) (8 * (l.length : Int)) i
      have hbl := base_len r hrl
      refine cd_seq ?_
      refine cd_region ?_
      refine st (ev_lss rfl rfl) rfl rfl rfl ?_
      refine op_nil ?_
      refine ax_then ?_
      refine At.regs (L' := [(2, _), (3, _), (4, _), (6, _), (8, _), (9, _), (35, _), (36, _)]) (.cons rfl (.cons rfl (.cons rfl (.cons rfl (.cons rfl (.cons rfl (.cons rfl (.cons rfl (.nil _))))))))) ?_
      refine cd_seq ?_
      refine cd_if rfl (fun hc36 => ?_) (fun hc36 => ?_)
      ·
        refine cd_skip ?_
        refine ax_then ?_
        refine At.regs (L' := [(2, _), (3, _), (4, _), (6, _), (8, _), (9, _), (35, _), (36, _)]) (.cons rfl (.cons rfl (.cons rfl (.cons rfl (.cons rfl (.cons rfl (.cons rfl (.cons rfl (.nil _))))))))) ?_
        refine cd_seq ?_
        refine cd_block ?_
        refine cd_seq ?_
        refine cd_region ?_
        refine st (ev_move rfl) rfl rfl rfl ?_
        refine st (ev_assign rfl) rfl rfl rfl ?_
        refine op_nil ?_
        refine ax_then ?_
        refine At.regs (L' := [(2, _), (3, _), (4, _), (6, _), (8, _), (9, _), (10, _), (35, _), (36, _), (37, _)]) (.cons rfl (.cons rfl (.cons rfl (.cons rfl (.cons rfl (.cons rfl (.cons rfl (.cons rfl (.cons rfl (.cons rfl (.nil _))))))))))) ?_
        refine cd_region ?_
        refine st (ev_move rfl) rfl rfl rfl ?_
        refine st (ev_sub64 rfl rfl (by omega) (by omega)) rfl rfl rfl ?_
        refine st (ev_move rfl) rfl rfl rfl ?_
        refine st (ev_sub64 rfl rfl (by omega) (by omega)) rfl rfl rfl ?_
        refine st (ev_move rfl) rfl rfl rfl ?_
        refine st (ev_move rfl) rfl rfl rfl ?_
        refine st (ev_mul64 rfl rfl (by omega) (by omega)) rfl rfl rfl ?_
        refine st (ev_shr rfl rfl (by omega)) rfl rfl rfl ?_
        refine st (ev_conv Try.underlying121 Try.underlying5 rfl) rfl rfl rfl ?_
        refine st (ev_indexAddr_arr Try.underlying134 ty5 rfl rfl (by omega) (by omega)) rfl rfl rfl ?_
        refine st_store1 6 ty5 rfl rfl rfl rfl (by first | omega | (simp only [List.length_append, List.length_cons, List.length_nil, List.length_set, List.length_replicate, List.length_take, List.length_drop, ints_length, wr_length] <;> omega) | rfl) rfl ?_
        refine at_heq (i := 6) rfl (by rw [ints_set]) ?_
        refine op_nil ?_
        refine ax_block ?_
        refine ax_then ?_
        refine At.regs (L' := [(2, _), (3, _), (4, _), (6, _), (8, _), (9, _), (10, _), (35, _), (36, _), (37, _), (38, _), (39, _), (40, _), (41, _), (42, _), (43, _), (44, _), (45, _), (46, _), (47, _)]) (.cons rfl (.cons rfl (.cons rfl (.cons rfl (.cons rfl (.cons rfl (.cons rfl (.cons rfl (.cons rfl (.cons rfl (.cons rfl (.cons rfl (.cons rfl (.cons rfl (.cons rfl (.cons rfl (.cons rfl (.cons rfl (.cons rfl (.cons rfl (.nil _))))))))))))))))))))) ?_
        refine cd_region ?_
        refine st (ev_add64 rfl rfl (by omega) (by omega)) rfl rfl rfl ?_
        refine st (ev_move rfl) rfl rfl rfl ?_
        refine op_nil ?_
        have e0 : 0 + (((en r.length : Nat) : Int) - 1 - (i : Int)).toNat * 1 = en r.length - 1 - i := by omega
        refine ax_heq (i := 6) (v' := .blk b6 (.cells (ints .u8 (sb (base r) (en r.length) (8 * (l.length : Int)) (i + 1))).toArray 134)) rfl (by simp only [e0]; rfl) ?_
        exact at_again (i + 1) (by omega) (by omega) (.cons rfl (.cons rfl (.cons rfl (.cons rfl (.cons rfl (.cons rfl (.cons rfl (.nil _)))))))) (.cons rfl (.cons rfl (.cons rfl (.cons rfl (.nil _))))) (.nil _)
      ·
        obtain rfl : i = 8 := by omega
        refine cd_exit ?_
        refine ax_then_exit ?_
        refine ax_then_exit ?_
        refine ax_block_hit ?_
        refine ax_then ?_
        refine At.regs (L' := [(2, _), (3, _), (4, _), (6, _), (8, _)]) (.cons rfl (.cons rfl (.cons rfl (.cons rfl (.cons rfl (.nil _)))))) ?_
        refine cd_seq ?_
        refine cd_seq ?_
        refine cd_region ?_
        refine st (ev_assign rfl) rfl rfl rfl ?_
        refine op_nil ?_
        refine ax_then ?_
        refine At.regs (L' := [(2, _), (3, _), (4, _), (6, _), (8, _), (11, _)]) (.cons rfl (.cons rfl (.cons rfl (.cons rfl (.cons rfl (.cons rfl (.nil _))))))) ?_
        refine cd_block ?_
        refine cd_loop (ι := Nat) (fun m => 64 * m ≤ en r.length) (fun m => 128 - m)
            (fun m => [(2, .pointer (some ⟨b2, 0, none⟩)), (3, .pointer (some ⟨b3, 0, none⟩)), (4, .pointer (some ⟨b4, 0, none⟩)), (6, .pointer (some ⟨b6, 0, none⟩)), (8, .int .i64 (en r.length : Nat)), (11, .int .i64 (64 * (m : Int)))])
            (fun m => [(2, .blk b2 (.cells (ints .u8 (List.replicate 32 0)).toArray 39)), (3, .blk b3 (.cells (ints .u32 (absorb (absorb S0 l (l.length / 64)) (sb (base r) (en r.length) (8 * (l.length : Int)) 8) m)).toArray 132)), (4, .blk b4 (.cells (ints .u32 (K)).toArray 128)), (6, .blk b6 (.cells (ints .u8 (sb (base r) (en r.length) (8 * (l.length : Int)) 8)).toArray 134))])
            (fun m => [])
            0 (by omega) (.cons rfl (.cons rfl (.cons rfl (.cons rfl (.cons rfl (.cons rfl (.nil _))))))) (.cons rfl (.cons rfl (.cons rfl (.cons rfl (.nil _))))) (.nil _) (fun m hi => ?_)
        have hsb := sb_len (base r) (en r.length) (8 * (l.length : Int)) 8
        have hbl := base_len r hrl
        refine cd_seq ?_
        refine cd_seq ?_
        refine cd_region ?_
        refine st (ev_move rfl) rfl rfl rfl ?_
        refine st (ev_move rfl) rfl rfl rfl ?_
        refine st (ev_lss rfl rfl) rfl rfl rfl ?_
        refine op_nil ?_
        refine ax_then ?_
        refine At.regs (L' := [(2, _), (3, _), (4, _), (6, _), (8, _), (11, _), (49, _), (50, _), (51, _)]) (.cons rfl (.cons rfl (.cons rfl (.cons rfl (.cons rfl (.cons rfl (.cons rfl (.cons rfl (.cons rfl (.nil _)))))))))) ?_
        refine cd_if rfl (fun hc51 => ?_) (fun hc51 => ?_)
        ·
          refine cd_skip ?_
          refine ax_then ?_
          refine At.regs (L' := [(2, _), (3, _), (4, _), (6, _), (8, _), (11, _), (49, _), (50, _), (51, _)]) (.cons rfl (.cons rfl (.cons rfl (.cons rfl (.cons rfl (.cons rfl (.cons rfl (.cons rfl (.cons rfl (.nil _)))))))))) ?_
          refine cd_seq ?_
          refine cd_block ?_
          refine cd_region ?_
          refine st (ev_move rfl) rfl rfl rfl ?_
          refine st (ev_slice_arr_lo Try.underlying134 ty5 rfl rfl (by omega) (by omega)) rfl rfl rfl ?_
          refine st_call has101 rfl (fun w1 sw => rn 3 (take_any b3 b4 132 (.slice (some ⟨b6, 0 + (64 * (m : Int)).toNat * 1, none⟩) (128 - (64 * (m : Int)).toNat) (128 - (64 * (m : Int)).toNat)) _ ((sb (base r) (en r.length) (8 * (l.length : Int)) 8).drop (0 + (64 * (m : Int)).toNat * 1)) K w1 (by simp only [absorb_len]; rfl) rfl (by simp only [List.length_drop]; omega) (sw.blk_eq (h := 3) rfl) (sw.rd_tail (h := 6) rfl (by omega)) (lies_blk (sw.blk_eq (h := 4) rfl)) (fun hb => sw.ne_blk (h := 3) (h' := 6) rfl rfl (by decide) (mem_one hb)) (sw.ne_blk (h := 3) (h' := 4) rfl rfl (by decide)))) (mod_blk rfl) rfl rfl (fun _ _ => ?_)
          refine op_nil ?_
          refine ax_block ?_
          refine ax_then ?_
          refine At.regs (L' := [(2, _), (3, _), (4, _), (6, _), (8, _), (11, _), (49, _), (50, _), (51, _), (54, _), (55, _)]) (.cons rfl (.cons rfl (.cons rfl (.cons rfl (.cons rfl (.cons rfl (.cons rfl (.cons rfl (.cons rfl (.cons rfl (.cons rfl (.nil _)))))))))))) ?_
          refine cd_region ?_
          refine st (ev_move rfl) rfl rfl rfl ?_
          refine st (ev_add64 rfl rfl (by omega) (by omega)) rfl rfl rfl ?_
          refine st (ev_assign rfl) rfl rfl rfl ?_
          refine op_nil ?_
          have e0 : 0 + (64 * (m : Int)).toNat * 1 = 64 * m := by omega
          refine ax_heq (i := 3) (v' := .blk b3 (.cells (ints .u32 (absorb (absorb S0 l (l.length / 64)) (sb (base r) (en r.length) (8 * (l.length : Int)) 8) (m + 1))).toArray 132)) rfl (by simp only [e0]; rfl) ?_
          exact at_again (m + 1) (by omega) (by omega) (.cons rfl (.cons rfl (.cons rfl (.cons rfl (.cons rfl (.cons rfl (.nil _))))))) (.cons rfl (.cons rfl (.cons rfl (.cons rfl (.nil _))))) (.nil _)
        ·
          obtain rfl : m = en r.length / 64 := by omega
          refine cd_exit ?_
          refine ax_then_exit ?_
          refine ax_then_exit ?_
          refine ax_block_hit ?_
          refine ax_then ?_
          refine At.regs (L' := [(2, _), (3, _)]) (.cons rfl (.cons rfl (.nil _))) ?_
          refine cd_seq ?_
          refine cd_seq ?_
          refine at_heq (i := 3) (v' := .blk b3 (.cells (ints .u32 (fs l)).toArray 132)) rfl (by rw [two_texts l r hr.symm]; rfl) ?_
          have hfl := fs_len l
          refine cd_region ?_
          refine st (ld_blk_all (h := 3) ty132 rfl rfl rfl (by first | omega | (simp only [List.length_append, List.length_cons, List.length_nil, List.length_set, List.length_replicate, List.length_take, List.length_drop, ints_length, wr_length] <;> omega) | rfl)) rfl rfl rfl ?_
          refine st (ev_move rfl) rfl rfl rfl ?_
          refine op_nil ?_
          refine ax_then ?_
          refine At.regs (L' := [(2, _), (57, _), (58, _)]) (.cons rfl (.cons rfl (.cons rfl (.nil _)))) ?_
          refine cd_block ?_
          refine cd_loop (ι := Nat) (fun i => i ≤ 8) (fun i => 8 - i)
              (fun i => [(2, .pointer (some ⟨b2, 0, none⟩)), (57, .agg (ints .u32 (fs l)).toArray), (58, .int .i64 (i : Int))])
              (fun i => [(2, .blk b2 (.cells (ints .u8 (outs (fs l) i)).toArray 39))])
              (fun i => [])
              0 (by omega) (.cons rfl (.cons rfl (.cons rfl (.nil _)))) (.cons rfl (.nil _)) (.nil _) (fun i hi => ?_)
          have hfl := fs_len l
          have hol := outs_len (fs l) i
          refine cd_seq ?_
          refine cd_region ?_
          refine st (ev_lss rfl rfl) rfl rfl rfl ?_
          refine op_nil ?_
          refine ax_then ?_
          refine At.regs (L' := [(2, _), (57, _), (58, _), (59, _)]) (.cons rfl (.cons rfl (.cons rfl (.cons rfl (.nil _))))) ?_
          refine cd_seq ?_
          refine cd_if rfl (fun hc59 => ?_) (fun hc59 => ?_)
          ·
            refine cd_skip ?_
            refine ax_then ?_
            refine At.regs (L' := [(2, _), (57, _), (58, _), (59, _)]) (.cons rfl (.cons rfl (.cons rfl (.cons rfl (.nil _))))) ?_
            refine cd_seq ?_
            refine cd_block ?_
            refine cd_seq ?_
            refine cd_region ?_
            refine st (ev_move rfl) rfl rfl rfl ?_
            refine st (ev_indexi Try.underlying132 ty126 rfl rfl (by omega) (by omega) (by first | omega | (simp only [List.length_append, List.length_cons, List.length_nil, List.length_set, List.length_replicate, List.length_take, List.length_drop, ints_length, wr_length] <;> omega) | rfl)) rfl rfl rfl ?_
            refine st (ev_assign rfl) rfl rfl rfl ?_
            refine st (ev_assign rfl) rfl rfl rfl ?_
            refine op_nil ?_
            refine ax_then ?_
            refine At.regs (L' := [(2, _), (12, _), (13, _), (57, _), (58, _), (59, _), (60, _), (61, _)]) (.cons rfl (.cons rfl (.cons rfl (.cons rfl (.cons rfl (.cons rfl (.cons rfl (.cons rfl (.nil _))))))))) ?_
            refine cd_region ?_
            refine st (ev_move rfl) rfl rfl rfl ?_
            refine st (ev_mul64 rfl rfl (by omega) (by omega)) rfl rfl rfl ?_
            refine st (ev_move rfl) rfl rfl rfl ?_
            refine st (ev_mul64 rfl rfl (by omega) (by omega)) rfl rfl rfl ?_
            refine st (ev_add64 rfl rfl (by omega) (by omega)) rfl rfl rfl ?_
            refine st (ev_move rfl) rfl rfl rfl ?_
            refine st (ev_mul64 rfl rfl (by omega) (by omega)) rfl rfl rfl ?_
            refine st (ev_add64 rfl rfl (by omega) (by omega)) rfl rfl rfl ?_
            refine st (ev_move rfl) rfl rfl rfl ?_
            refine st (ev_mul64 rfl rfl (by omega) (by omega)) rfl rfl rfl ?_
            refine st (ev_add64 rfl rfl (by omega) (by omega)) rfl rfl rfl ?_
            refine st (ev_move rfl) rfl rfl rfl ?_
            refine st (ev_shr rfl rfl (by omega)) rfl rfl rfl ?_
            refine st (ev_conv Try.underlying126 Try.underlying5 rfl) rfl rfl rfl ?_
            refine st (ev_move rfl) rfl rfl rfl ?_
            refine st (ev_shr rfl rfl (by omega)) rfl rfl rfl ?_
            refine st (ev_conv Try.underlying126 Try.underlying5 rfl) rfl rfl rfl ?_
            refine st (ev_move rfl) rfl rfl rfl ?_
            refine st (ev_shr rfl rfl (by omega)) rfl rfl rfl ?_
            refine st (ev_conv Try.underlying126 Try.underlying5 rfl) rfl rfl rfl ?_
            refine st (ev_move rfl) rfl rfl rfl ?_
            refine st (ev_conv Try.underlying126 Try.underlying5 rfl) rfl rfl rfl ?_
            refine st (ev_indexAddr_arr Try.underlying39 ty5 rfl rfl (by omega) (by omega)) rfl rfl rfl ?_
            refine st_store1 2 ty5 rfl rfl rfl rfl (by first | omega | (simp only [List.length_append, List.length_cons, List.length_nil, List.length_set, List.length_replicate, List.length_take, List.length_drop, ints_length, wr_length] <;> omega) | rfl) rfl ?_
            refine at_heq (i := 2) rfl (by rw [ints_set]) ?_
            refine st (ev_indexAddr_arr Try.underlying39 ty5 rfl rfl (by omega) (by omega)) rfl rfl rfl ?_
            refine st_store1 2 ty5 rfl rfl rfl rfl (by first | omega | (simp only [List.length_append, List.length_cons, List.length_nil, List.length_set, List.length_replicate, List.length_take, List.length_drop, ints_length, wr_length] <;> omega) | rfl) rfl ?_
            refine at_heq (i := 2) rfl (by rw [ints_set]) ?_
            refine st (ev_indexAddr_arr Try.underlying39 ty5 rfl rfl (by omega) (by omega)) rfl rfl rfl ?_
            refine st_store1 2 ty5 rfl rfl rfl rfl (by first | omega | (simp only [List.length_append, List.length_cons, List.length_nil, List.length_set, List.length_replicate, List.length_take, List.length_drop, ints_length, wr_length] <;> omega) | rfl) rfl ?_
            refine at_heq (i := 2) rfl (by rw [ints_set]) ?_
            refine st (ev_indexAddr_arr Try.underlying39 ty5 rfl rfl (by omega) (by omega)) rfl rfl rfl ?_
            refine st_store1 2 ty5 rfl rfl rfl rfl (by first | omega | (simp only [List.length_append, List.length_cons, List.length_nil, List.length_set, List.length_replicate, List.length_take, List.length_drop, ints_length, wr_length] <;> omega) | rfl) rfl ?_
            refine at_heq (i := 2) rfl (by rw [ints_set]) ?_
            refine op_nil ?_
            refine ax_block ?_
            refine ax_then ?_
            refine At.regs (L' := [(2, _), (12, _), (13, _), (57, _), (58, _), (59, _), (60, _), (61, _), (62, _), (63, _), (64, _), (65, _), (66, _), (67, _), (68, _), (69, _), (70, _), (71, _), (72, _), (73, _), (74, _), (75, _), (76, _), (77, _), (78, _), (79, _), (80, _), (81, _), (82, _), (83, _), (84, _), (85, _), (86, _), (87, _)]) (.cons rfl (.cons rfl (.cons rfl (.cons rfl (.cons rfl (.cons rfl (.cons rfl (.cons rfl (.cons rfl (.cons rfl (.cons rfl (.cons rfl (.cons rfl (.cons rfl (.cons rfl (.cons rfl (.cons rfl (.cons rfl (.cons rfl (.cons rfl (.cons rfl (.cons rfl (.cons rfl (.cons rfl (.cons rfl (.cons rfl (.cons rfl (.cons rfl (.cons rfl (.cons rfl (.cons rfl (.cons rfl (.cons rfl (.cons rfl (.nil _))))))))))))))))))))))))))))))))))) ?_
            refine cd_region ?_
            refine st (ev_add64 rfl rfl (by omega) (by omega)) rfl rfl rfl ?_
            refine st (ev_move rfl) rfl rfl rfl ?_
            refine op_nil ?_
            have e0 : (i : Int).toNat = i := by omega
            have e1 : 0 + (4 * (i : Int)).toNat * 1 = 4 * i := by omega
            have e2 : 0 + (4 * (i : Int) + 1).toNat * 1 = 4 * i + 1 := by omega
            have e3 : 0 + (4 * (i : Int) + 2).toNat * 1 = 4 * i + 2 := by omega
            have e4 : 0 + (4 * (i : Int) + 3).toNat * 1 = 4 * i + 3 := by omega
            refine ax_heq (i := 2) (v' := .blk b2 (.cells (ints .u8 (outs (fs l) (i + 1))).toArray 39)) rfl (by simp only [e0, e1, e2, e3, e4]; rfl) ?_
            exact at_again (i + 1) (by omega) (by omega) (.cons rfl (.cons rfl (.cons rfl (.nil _)))) (.cons rfl (.nil _)) (.nil _)
          ·
            obtain rfl : i = 8 := by omega
            refine cd_exit ?_
            refine ax_then_exit ?_
            refine ax_then_exit ?_
            refine ax_block_hit ?_
            refine ax_then ?_
            refine At.regs (L' := [(2, _)]) (.cons rfl (.nil _)) ?_
            refine cd_seq ?_
            refine at_heq (i := 2) (v' := .blk b2 (.cells (ints .u8 (sha l)).toArray 39)) rfl (by rw [outs_eq]; rfl) ?_
            have hsl := sha_len l
            refine cd_region ?_
            refine st (ld_blk_all (h := 2) ty39 rfl rfl rfl (by first | omega | (simp only [List.length_append, List.length_cons, List.length_nil, List.length_set, List.length_replicate, List.length_take, List.length_drop, ints_length, wr_length] <;> omega) | rfl)) rfl rfl rfl ?_
            refine st_store_all 2 ty39 rfl rfl rfl rfl (by first | omega | (simp only [List.length_append, List.length_cons, List.length_nil, List.length_set, List.length_replicate, List.length_take, List.length_drop, ints_length, wr_length] <;> omega) | rfl) (ints_one _ _) (by first | omega | (simp only [List.length_append, List.length_cons, List.length_nil, List.length_set, List.length_replicate, List.length_take, List.length_drop, ints_length, wr_length] <;> omega) | rfl) rfl ?_
            refine op_nil ?_
            refine ax_then ?_
            refine At.regs (L' := [(2, _)]) (.cons rfl (.nil _)) ?_
            refine cd_ret ?_
            refine rt_cell (h0 := 2) (.inl rfl) Try.results83 ty39 rfl rfl rfl (by first | omega | (simp only [List.length_append, List.length_cons, List.length_nil, List.length_set, List.length_replicate, List.length_take, List.length_drop, ints_length, wr_length] <;> omega) | rfl) ?_
            exact fun w1 sw => ⟨rfl, sw.gives (.nil _)⟩

end Go.Proofs.Yteedclmcgifmpaa
