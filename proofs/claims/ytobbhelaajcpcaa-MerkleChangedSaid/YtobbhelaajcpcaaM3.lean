/- Walks: the laws of chapter 4. -/
import Derived.Test.YtobbhelaajcpcaaM2
import Derived.Test.YtobbhelaajcpcaaMk2
import Derived.Test.YtobbhelaajcpcaaE6
import Derived.Test.YtobbhelaajcpcaaFw15
namespace Go.Proofs.Ytobbhelaajcpcaa
open Go Go.RowKit Fw
open Sha
open Mk
set_option linter.unusedVariables false
set_option linter.unusedSimpArgs false

theorem rd_nilh {w : World} : Rd w (.slice none 0 0) 32 (flat []) := ⟨none, 0, 0, rfl, by simp [flat, ints], Nat.le_refl _, fun _ => rfl, fun x hx => by cases hx⟩

set_option maxRecDepth 20000 in
set_option maxHeartbeats 4000000 in
theorem merkleTells_any (p q : Value) (cs ps : List (List Int)) (i : Int) (leaf : List Int) (w : World) (hl : leaf.length = 32) (hi : (-9223372036854775808 ≤ i ∧ i ≤ 9223372036854775807)) (hu : H32 cs) (hu' : H32 ps) (hcl : cs.length ≤ 4398046511104) (hpl : ps.length ≤ 4398046511104) (h : Rd w p 32 (flat cs)) (h' : Rd w q 32 (flat ps)) : Calls Try.prog 12 #[p, .int .i64 i, .agg (ints .u8 (leaf)).toArray, q] w (PostV w (.bool true)) := by
  refine calls_at (vs := [p, .int .i64 i, .agg (ints .u8 (leaf)).toArray, q]) (X := []) (H := []) (F := [(3, .sl q 32 (flat (ps))), (0, .sl p 32 (flat (cs)))]) 81 Try.func12 rfl rfl rfl ((Sat.rd0 0 h).more 3 h') ?_
  refine cd_seq ?_
  refine cd_region ?_
  refine st_box (h := 6) rfl rfl rfl rfl (fun b6 => ?_)
  refine st (ev_assign rfl) rfl rfl rfl ?_
  refine op_nil ?_
  refine ax_then ?_
  refine At.regs (L' := [(0, _), (1, _), (3, _), (6, _), (8, _)]) (.cons rfl (.cons rfl (.cons rfl (.cons rfl (.cons rfl (.nil _)))))) ?_
  refine cd_seq ?_
  refine cd_seq ?_
  refine cd_region ?_
  refine st (ev_move rfl) rfl rfl rfl ?_
  refine st (ev_len_rdh (h := 0) Try.underlying22 rfl rfl (by assumption)) rfl rfl rfl ?_
  refine st (ev_gtr rfl rfl) rfl rfl rfl ?_
  refine st (ev_move rfl) rfl rfl rfl ?_
  refine at_split_if (i := 14) rfl (fun hg14 => ?_) (fun hg14 => ?_)
  ·
    refine st_skip rfl rfl rfl ?_
    refine st_skip rfl rfl rfl ?_
    refine st_skip rfl rfl rfl ?_
    refine st (ev_pick_t rfl rfl) rfl rfl rfl ?_
    refine st (ev_move rfl) rfl rfl rfl ?_
    refine st_skip rfl rfl rfl ?_
    refine st_skip rfl rfl rfl ?_
    refine st (ev_pick_t rfl rfl) rfl rfl rfl ?_
    refine op_nil ?_
    refine ax_then ?_
    refine At.regs (L' := [(0, _), (1, _), (3, _), (6, _), (8, _), (22, _)]) (.cons rfl (.cons rfl (.cons rfl (.cons rfl (.cons rfl (.cons rfl (.nil _))))))) ?_
    refine cd_true rfl ?_
    refine cd_seq ?_
    refine cd_region ?_
    refine st (ev_assign rfl) rfl rfl rfl ?_
    refine op_nil ?_
    refine ax_then ?_
    refine At.regs (L' := [(0, _), (1, _), (3, _), (6, _), (8, _)]) (.cons rfl (.cons rfl (.cons rfl (.cons rfl (.cons rfl (.nil _)))))) ?_
    refine cd_ret ?_
    refine ax_then_ret ?_
    refine rt_tmp (.inl rfl) Try.results12 rfl ?_
    exact fun w1 sw => ⟨rfl, sw.gives (.nil _)⟩
  ·
    refine st (ev_move rfl) rfl rfl rfl ?_
    refine st (ev_len_rdh (h := 3) Try.underlying22 rfl rfl (by assumption)) rfl rfl rfl ?_
    refine st (ev_gtr rfl rfl) rfl rfl rfl ?_
    refine st (ev_pick_f rfl rfl) rfl rfl rfl ?_
    refine st (ev_move rfl) rfl rfl rfl ?_
    refine at_split_if (i := 19) rfl (fun hg19 => ?_) (fun hg19 => ?_)
    ·
      refine st_skip rfl rfl rfl ?_
      refine st_skip rfl rfl rfl ?_
      refine st (ev_pick_t rfl rfl) rfl rfl rfl ?_
      refine op_nil ?_
      refine ax_then ?_
      refine At.regs (L' := [(0, _), (1, _), (3, _), (6, _), (8, _), (22, _)]) (.cons rfl (.cons rfl (.cons rfl (.cons rfl (.cons rfl (.cons rfl (.nil _))))))) ?_
      refine cd_true rfl ?_
      refine cd_seq ?_
      refine cd_region ?_
      refine st (ev_assign rfl) rfl rfl rfl ?_
      refine op_nil ?_
      refine ax_then ?_
      refine At.regs (L' := [(0, _), (1, _), (3, _), (6, _), (8, _)]) (.cons rfl (.cons rfl (.cons rfl (.cons rfl (.cons rfl (.nil _)))))) ?_
      refine cd_ret ?_
      refine ax_then_ret ?_
      refine rt_tmp (.inl rfl) Try.results12 rfl ?_
      exact fun w1 sw => ⟨rfl, sw.gives (.nil _)⟩
    ·
      refine st (ev_move rfl) rfl rfl rfl ?_
      refine st (ev_lss rfl rfl) rfl rfl rfl ?_
      refine st (ev_pick_f rfl rfl) rfl rfl rfl ?_
      refine op_nil ?_
      refine ax_then ?_
      refine At.regs (L' := [(0, _), (1, _), (3, _), (6, _), (8, _), (22, _)]) (.cons rfl (.cons rfl (.cons rfl (.cons rfl (.cons rfl (.cons rfl (.nil _))))))) ?_
      refine cd_if rfl (fun hc22 => ?_) (fun hc22 => ?_)
      ·
        refine cd_seq ?_
        refine cd_region ?_
        refine st (ev_assign rfl) rfl rfl rfl ?_
        refine op_nil ?_
        refine ax_then ?_
        refine At.regs (L' := [(0, _), (1, _), (3, _), (6, _), (8, _)]) (.cons rfl (.cons rfl (.cons rfl (.cons rfl (.cons rfl (.nil _)))))) ?_
        refine cd_ret ?_
        refine ax_then_ret ?_
        refine rt_tmp (.inl rfl) Try.results12 rfl ?_
        exact fun w1 sw => ⟨rfl, sw.gives (.nil _)⟩
      ·
        refine cd_skip ?_
        refine ax_then ?_
        refine At.regs (L' := [(0, _), (1, _), (3, _), (6, _), (8, _)]) (.cons rfl (.cons rfl (.cons rfl (.cons rfl (.cons rfl (.nil _)))))) ?_
        refine cd_join (ι := Nat × Nat) (fun x => True) (fun x => [(0, p), (1, .int .i64 i), (3, q), (6, .pointer (some ⟨b6, 0, none⟩)), (9, .pointer (some ⟨x.1, 0, none⟩)), (10, .pointer (some ⟨x.2, 0, none⟩))]) (fun x => [(9, .blk x.1 (.cells (ints .u8 (leaf)).toArray 24)), (10, .blk x.2 (.cells (ints .u8 (leaf)).toArray 24))]) (fun x => [(0, .sl p 32 (flat (cs))), (3, .sl q 32 (flat (ps))), (6, .mem b6 0 (ints .u8 leaf))]) ?_ (fun x hj => ?_)
        ·
          refine at_freeze_blk (h := 6) (H' := []) 6 rfl (.nil _) rfl ?_
          refine cd_mix hmix ?_
          refine mx (i := 0) rfl (by decide +kernel) (by decide +kernel) (by decide +kernel) rfl (fun w0 => ld_mem_all (h := 6) ty24 rfl rfl rfl (by first | omega | (simp only [List.length_append, List.length_cons, List.length_nil, List.length_set, List.length_replicate, List.length_take, List.length_drop, ints_length, wr_length, node_len] <;> omega) | rfl)) rfl rfl (Sub.refl _) ?_
          refine mx (i := 1) rfl (by decide +kernel) (by decide +kernel) (by decide +kernel) rfl (fun w0 => ld_mem_all (h := 6) ty24 rfl rfl rfl (by first | omega | (simp only [List.length_append, List.length_cons, List.length_nil, List.length_set, List.length_replicate, List.length_take, List.length_drop, ints_length, wr_length, node_len] <;> omega) | rfl)) rfl rfl (Sub.refl _) ?_
          refine mx_two (i := 2) (j := 3) (by decide +kernel) (Sub.refl _) ?_ ?_
          ·
            refine wo (i := 2) rfl ?_
            refine st_alloc (h := 9) ty24 rfl rfl rfl (fun b9 => ?_)
            refine op_nil ?_
            refine ax_then ?_
            refine mx_one (i := 3) (by decide +kernel) (Sub.refl _) ?_
            refine wo (i := 3) rfl ?_
            refine st_alloc (h := 10) ty24 rfl rfl rfl (fun b10 => ?_)
            refine op_nil ?_
            refine ax_then ?_
            refine mx_one (i := 4) (by decide +kernel) (Sub.refl _) ?_
            refine wo (i := 4) rfl ?_
            refine st_store_all 9 ty24 rfl rfl rfl rfl (by first | omega | (simp only [List.length_append, List.length_cons, List.length_nil, List.length_set, List.length_replicate, List.length_take, List.length_drop, ints_length, wr_length, node_len] <;> omega) | rfl) (ints_one _ _) (by first | omega | (simp only [List.length_append, List.length_cons, List.length_nil, List.length_set, List.length_replicate, List.length_take, List.length_drop, ints_length, wr_length, node_len] <;> omega) | rfl) rfl ?_
            refine op_nil ?_
            refine ax_then ?_
            refine mx_one (i := 5) (by decide +kernel) (Sub.refl _) ?_
            refine wo (i := 5) rfl ?_
            refine st_store_all 10 ty24 rfl rfl rfl rfl (by first | omega | (simp only [List.length_append, List.length_cons, List.length_nil, List.length_set, List.length_replicate, List.length_take, List.length_drop, ints_length, wr_length, node_len] <;> omega) | rfl) (ints_one _ _) (by first | omega | (simp only [List.length_append, List.length_cons, List.length_nil, List.length_set, List.length_replicate, List.length_take, List.length_drop, ints_length, wr_length, node_len] <;> omega) | rfl) rfl ?_
            refine op_nil ?_
            refine ax_then ?_
            refine mx_done (by decide +kernel) (Sub.refl _) ?_
            exact at_met ((b9, b10)) (trivial) (.cons rfl (.cons rfl (.cons rfl (.cons rfl (.cons rfl (.cons rfl (.nil _))))))) (.cons rfl (.cons rfl (.nil _))) (.cons rfl (.cons rfl (.cons rfl (.nil _))))
          ·
            refine wo (i := 3) rfl ?_
            refine st_alloc (h := 10) ty24 rfl rfl rfl (fun b10 => ?_)
            refine op_nil ?_
            refine ax_then ?_
            refine mx_one (i := 2) (by decide +kernel) (Sub.refl _) ?_
            refine wo (i := 2) rfl ?_
            refine st_alloc (h := 9) ty24 rfl rfl rfl (fun b9 => ?_)
            refine op_nil ?_
            refine ax_then ?_
            refine mx_one (i := 4) (by decide +kernel) (Sub.refl _) ?_
            refine wo (i := 4) rfl ?_
            refine st_store_all 9 ty24 rfl rfl rfl rfl (by first | omega | (simp only [List.length_append, List.length_cons, List.length_nil, List.length_set, List.length_replicate, List.length_take, List.length_drop, ints_length, wr_length, node_len] <;> omega) | rfl) (ints_one _ _) (by first | omega | (simp only [List.length_append, List.length_cons, List.length_nil, List.length_set, List.length_replicate, List.length_take, List.length_drop, ints_length, wr_length, node_len] <;> omega) | rfl) rfl ?_
            refine op_nil ?_
            refine ax_then ?_
            refine mx_one (i := 5) (by decide +kernel) (Sub.refl _) ?_
            refine wo (i := 5) rfl ?_
            refine st_store_all 10 ty24 rfl rfl rfl rfl (by first | omega | (simp only [List.length_append, List.length_cons, List.length_nil, List.length_set, List.length_replicate, List.length_take, List.length_drop, ints_length, wr_length, node_len] <;> omega) | rfl) (ints_one _ _) (by first | omega | (simp only [List.length_append, List.length_cons, List.length_nil, List.length_set, List.length_replicate, List.length_take, List.length_drop, ints_length, wr_length, node_len] <;> omega) | rfl) rfl ?_
            refine op_nil ?_
            refine ax_then ?_
            refine mx_done (by decide +kernel) (Sub.refl _) ?_
            exact at_met ((b9, b10)) (trivial) (.cons rfl (.cons rfl (.cons rfl (.cons rfl (.cons rfl (.cons rfl (.nil _))))))) (.cons rfl (.cons rfl (.nil _))) (.cons rfl (.cons rfl (.cons rfl (.nil _))))
        ·
          obtain ⟨b9, b10⟩ := x
          dsimp only
          refine cd_join (ι := List Int) (fun b => b.length = 32) (fun b => [(0, p), (1, .int .i64 i), (3, q), (6, .pointer (some ⟨b6, 0, none⟩)), (9, .pointer (some ⟨b9, 0, none⟩)), (10, .pointer (some ⟨b10, 0, none⟩))]) (fun b => [(9, .blk b9 (.cells (ints .u8 (leaf)).toArray 24)), (10, .blk b10 (.cells (ints .u8 (b)).toArray 24))]) (fun b => [(0, .sl p 32 (flat (cs))), (3, .sl q 32 (flat (ps))), (6, .mem b6 0 (ints .u8 leaf))]) ?_ (fun b hj => ?_)
          ·
            refine cd_seq ?_
            refine cd_region ?_
            refine st (ev_move rfl) rfl rfl rfl ?_
            refine st (ev_len_rdh (h := 0) Try.underlying22 rfl rfl (by assumption)) rfl rfl rfl ?_
            refine st (ev_gtr rfl rfl) rfl rfl rfl ?_
            refine op_nil ?_
            refine ax_then ?_
            refine At.regs (L' := [(0, _), (1, _), (3, _), (6, _), (9, _), (10, _), (27, _)]) (.cons rfl (.cons rfl (.cons rfl (.cons rfl (.cons rfl (.cons rfl (.cons rfl (.nil _)))))))) ?_
            refine cd_if rfl (fun hc27 => ?_) (fun hc27 => ?_)
            ·
              have hg : (cs.getD (Int.toNat 0) []).length = 32 := hu.get (by show 0 < _; omega)
              refine cd_region ?_
              refine st (ev_move rfl) rfl rfl rfl ?_
              refine st (ev_indexAddr_rdh (h := 0) Try.underlying22 ty24 rfl rfl rfl (by assumption) (by omega) (by omega)) rfl rfl rfl ?_
              refine st (ld_rdh (h := 0) ty24 rfl rfl rfl (by assumption) (by omega)) rfl rfl rfl ?_
              refine st_store_all 10 ty24 rfl rfl rfl rfl (by first | omega | (simp only [List.length_append, List.length_cons, List.length_nil, List.length_set, List.length_replicate, List.length_take, List.length_drop, ints_length, wr_length, node_len] <;> omega) | rfl) (ints_one _ _) (by first | omega | (simp only [List.length_append, List.length_cons, List.length_nil, List.length_set, List.length_replicate, List.length_take, List.length_drop, ints_length, wr_length, node_len] <;> omega) | rfl) rfl ?_
              refine op_nil ?_
              exact at_met (cs.getD (Int.toNat 0) []) (by assumption) (.cons rfl (.cons rfl (.cons rfl (.cons rfl (.cons rfl (.cons rfl (.nil _))))))) (.cons rfl (.cons rfl (.nil _))) (.cons rfl (.cons rfl (.cons rfl (.nil _))))
            ·
              refine cd_skip ?_
              exact at_met (leaf) (by assumption) (.cons rfl (.cons rfl (.cons rfl (.cons rfl (.cons rfl (.cons rfl (.nil _))))))) (.cons rfl (.cons rfl (.nil _))) (.cons rfl (.cons rfl (.cons rfl (.nil _))))
          ·
            have hrl := root_len hu
            have hul : ∀ j, (up leaf j ps).length = 32 := fun j => up_len hl j ps
            refine cd_seq ?_
            refine at_freeze_blk (h := 9) (H' := [(10, _)]) 9 rfl (.cons rfl (.nil _)) rfl ?_
            refine at_freeze_blk (h := 10) (H' := []) 10 rfl (.nil _) rfl ?_
            refine cd_mix hmix ?_
            refine mx (i := 0) rfl (by decide +kernel) (by decide +kernel) (by decide +kernel) rfl (fun w0 => ev_move rfl) rfl rfl (Sub.refl _) ?_
            refine mx (i := 2) rfl (by decide +kernel) (by decide +kernel) (by decide +kernel) rfl (fun w0 => ev_move rfl) rfl rfl (Sub.refl _) ?_
            refine mx_one (i := 1) (by decide +kernel) (Sub.refl _) ?_
            refine wo (i := 1) rfl ?_
            refine st_callv has14 rfl (fun w1 sw => root_any p cs w1 hu (by omega) (sw.sl_rd (h := 0) rfl)) rfl rfl ?_
            refine op_nil ?_
            refine ax_then ?_
            refine mx_one (i := 3) (by decide +kernel) (Sub.refl _) ?_
            refine wo (i := 3) rfl ?_
            refine st_callv has15 rfl (fun w1 sw => rroot_any p cs w1 hu (by omega) (sw.sl_rd (h := 0) rfl)) rfl rfl ?_
            refine op_nil ?_
            refine ax_then ?_
            refine mx (i := 4) rfl (by decide +kernel) (by decide +kernel) (by decide +kernel) rfl (fun w0 => ev_eql_arr Try.underlying24 ty5 eqg24 rfl rfl (by first | omega | (simp only [List.length_append, List.length_cons, List.length_nil, List.length_set, List.length_replicate, List.length_take, List.length_drop, ints_length, wr_length, node_len] <;> omega) | rfl) (by first | omega | (simp only [List.length_append, List.length_cons, List.length_nil, List.length_set, List.length_replicate, List.length_take, List.length_drop, ints_length, wr_length, node_len] <;> omega) | rfl)) rfl rfl (Sub.refl _) ?_
            refine mx (i := 5) rfl (by decide +kernel) (by decide +kernel) (by decide +kernel) rfl (fun w0 => ev_move rfl) rfl rfl (Sub.refl _) ?_
            refine at_eq (i := 36) (v' := .bool true) rfl (by simp) ?_
            refine mx (i := 6) rfl (by decide +kernel) (by decide +kernel) (by decide +kernel) rfl (fun w0 => ev_move rfl) rfl rfl (Sub.refl _) ?_
            refine mx (i := 7) rfl (by decide +kernel) (by decide +kernel) (by decide +kernel) rfl (fun w0 => ev_move rfl) rfl rfl (Sub.refl _) ?_
            refine mx (i := 9) rfl (by decide +kernel) (by decide +kernel) (by decide +kernel) rfl (fun w0 => ev_move rfl) rfl rfl (Sub.refl _) ?_
            refine mx (i := 10) rfl (by decide +kernel) (by decide +kernel) (by decide +kernel) rfl (fun w0 => ev_move rfl) rfl rfl (Sub.refl _) ?_
            refine mx_one (i := 8) (by decide +kernel) (Sub.refl _) ?_
            refine wo (i := 8) rfl ?_
            refine st_call has32 rfl (fun w1 sw => rn 39 (path_any p (cs) (i) w1 hu (by omega) (by omega) (sw.sl_rd (h := 0) rfl))) nil_all rfl rfl (fun v39 _ => ?_)
            have hu39 := path_h32 _ (cs) (i) (Nat.le_refl _) hu
            have hpm39 := path_max _ (cs) (i) (Nat.le_refl _)
            refine op_nil ?_
            refine ax_then ?_
            refine mx_one (i := 11) (by decide +kernel) (Sub.refl _) ?_
            refine wo (i := 11) rfl ?_
            refine st_call has33 rfl (fun w1 sw => rn 42 (rpath_any p (cs) (i) w1 hu (by omega) (by omega) (sw.sl_rd (h := 0) rfl))) nil_all rfl rfl (fun v42 _ => ?_)
            have hu42 := path_h32 _ (cs) (i) (Nat.le_refl _) hu
            have hpm42 := path_max _ (cs) (i) (Nat.le_refl _)
            refine op_nil ?_
            refine ax_then ?_
            refine mx_one (i := 12) (by decide +kernel) (Sub.refl _) ?_
            refine wo (i := 12) rfl ?_
            refine st_callv has28 rfl (fun w1 sw => hashes_any v39 v42 (path cs i) (path cs i) w1 hu39 hu42 (by omega) (by omega) (sw.own_rd (h := 39) rfl) (sw.own_rd (h := 42) rfl)) rfl rfl ?_
            refine op_nil ?_
            refine ax_then ?_
            refine mx (i := 13) rfl (by decide +kernel) (by decide +kernel) (by decide +kernel) rfl (fun w0 => ev_pick_t rfl rfl) rfl rfl (Sub.refl _) ?_
            refine mx (i := 14) rfl (by decide +kernel) (by decide +kernel) (by decide +kernel) rfl (fun w0 => ev_move rfl) rfl rfl (Sub.refl _) ?_
            refine at_eq (i := 45) (v' := .bool true) rfl (by simp) ?_
            refine mx (i := 15) rfl (by decide +kernel) (by decide +kernel) (by decide +kernel) rfl (fun w0 => ld_mem_all (h := 9) ty24 rfl rfl rfl (by first | omega | (simp only [List.length_append, List.length_cons, List.length_nil, List.length_set, List.length_replicate, List.length_take, List.length_drop, ints_length, wr_length, node_len] <;> omega) | rfl)) rfl rfl (Sub.refl _) ?_
            refine mx (i := 16) rfl (by decide +kernel) (by decide +kernel) (by decide +kernel) rfl (fun w0 => ld_mem_all (h := 10) ty24 rfl rfl rfl (by first | omega | (simp only [List.length_append, List.length_cons, List.length_nil, List.length_set, List.length_replicate, List.length_take, List.length_drop, ints_length, wr_length, node_len] <;> omega) | rfl)) rfl rfl (Sub.refl _) ?_
            refine mx (i := 18) rfl (by decide +kernel) (by decide +kernel) (by decide +kernel) rfl (fun w0 => ld_mem_all (h := 9) ty24 rfl rfl rfl (by first | omega | (simp only [List.length_append, List.length_cons, List.length_nil, List.length_set, List.length_replicate, List.length_take, List.length_drop, ints_length, wr_length, node_len] <;> omega) | rfl)) rfl rfl (Sub.refl _) ?_
            refine mx (i := 19) rfl (by decide +kernel) (by decide +kernel) (by decide +kernel) rfl (fun w0 => ld_mem_all (h := 10) ty24 rfl rfl rfl (by first | omega | (simp only [List.length_append, List.length_cons, List.length_nil, List.length_set, List.length_replicate, List.length_take, List.length_drop, ints_length, wr_length, node_len] <;> omega) | rfl)) rfl rfl (Sub.refl _) ?_
            refine mx_one (i := 17) (by decide +kernel) (Sub.refl _) ?_
            refine wo (i := 17) rfl ?_
            refine st_callv has34 rfl (fun w1 sw => node_any leaf b w1 hl (by assumption)) rfl rfl ?_
            refine op_nil ?_
            refine ax_then ?_
            refine mx_one (i := 20) (by decide +kernel) (Sub.refl _) ?_
            refine wo (i := 20) rfl ?_
            refine st_callv has35 rfl (fun w1 sw => rnode_any leaf b w1 hl (by assumption)) rfl rfl ?_
            refine op_nil ?_
            refine ax_then ?_
            refine mx (i := 21) rfl (by decide +kernel) (by decide +kernel) (by decide +kernel) rfl (fun w0 => ev_eql_arr Try.underlying24 ty5 eqg24 rfl rfl (by first | omega | (simp only [List.length_append, List.length_cons, List.length_nil, List.length_set, List.length_replicate, List.length_take, List.length_drop, ints_length, wr_length, node_len] <;> omega) | rfl) (by first | omega | (simp only [List.length_append, List.length_cons, List.length_nil, List.length_set, List.length_replicate, List.length_take, List.length_drop, ints_length, wr_length, node_len] <;> omega) | rfl)) rfl rfl (Sub.refl _) ?_
            refine mx (i := 22) rfl (by decide +kernel) (by decide +kernel) (by decide +kernel) rfl (fun w0 => ev_pick_t rfl rfl) rfl rfl (Sub.refl _) ?_
            refine mx (i := 23) rfl (by decide +kernel) (by decide +kernel) (by decide +kernel) rfl (fun w0 => ev_move rfl) rfl rfl (Sub.refl _) ?_
            refine at_eq (i := 54) (v' := .bool true) rfl (by simp) ?_
            refine mx (i := 24) rfl (by decide +kernel) (by decide +kernel) (by decide +kernel) rfl (fun w0 => ev_move rfl) rfl rfl (Sub.refl _) ?_
            refine mx (i := 25) rfl (by decide +kernel) (by decide +kernel) (by decide +kernel) rfl (fun w0 => ev_len_rdh (h := 3) Try.underlying22 rfl rfl (by assumption)) rfl rfl (Sub.refl _) ?_
            refine mx (i := 26) rfl (by decide +kernel) (by decide +kernel) (by decide +kernel) rfl (fun w0 => ev_gtr rfl rfl) rfl rfl (Sub.refl _) ?_
            refine mx (i := 27) rfl (by decide +kernel) (by decide +kernel) (by decide +kernel) rfl (fun w0 => ev_move rfl) rfl rfl (Sub.refl _) ?_
            refine at_split_if (i := 58) rfl (fun hg58 => ?_) (fun hg58 => ?_)
            ·
              refine mx_skip (i := 28) rfl (by decide +kernel) (by decide +kernel) (by decide +kernel) rfl rfl rfl (Sub.refl _) ?_
              refine mx_skip (i := 29) rfl (by decide +kernel) (by decide +kernel) (by decide +kernel) rfl rfl rfl (Sub.refl _) ?_
              refine mx_skip (i := 30) rfl (by decide +kernel) (by decide +kernel) (by decide +kernel) rfl rfl rfl (Sub.refl _) ?_
              refine mx_skip (i := 31) rfl (by decide +kernel) (by decide +kernel) (by decide +kernel) rfl rfl rfl (Sub.refl _) ?_
              refine mx_skip (i := 32) rfl (by decide +kernel) (by decide +kernel) (by decide +kernel) rfl rfl rfl (Sub.refl _) ?_
              refine mx_skip (i := 33) rfl (by decide +kernel) (by decide +kernel) (by decide +kernel) rfl rfl rfl (Sub.refl _) ?_
              refine mx (i := 34) rfl (by decide +kernel) (by decide +kernel) (by decide +kernel) rfl (fun w0 => ev_pick_t rfl rfl) rfl rfl (Sub.refl _) ?_
              refine mx (i := 35) rfl (by decide +kernel) (by decide +kernel) (by decide +kernel) rfl (fun w0 => ev_move rfl) rfl rfl (Sub.refl _) ?_
              refine mx_skip (i := 36) rfl (by decide +kernel) (by decide +kernel) (by decide +kernel) rfl rfl rfl (Sub.refl _) ?_
              refine mx_skip (i := 37) rfl (by decide +kernel) (by decide +kernel) (by decide +kernel) rfl rfl rfl (Sub.refl _) ?_
              refine mx_skip (i := 38) rfl (by decide +kernel) (by decide +kernel) (by decide +kernel) rfl rfl rfl (Sub.refl _) ?_
              refine mx_skip (i := 39) rfl (by decide +kernel) (by decide +kernel) (by decide +kernel) rfl rfl rfl (Sub.refl _) ?_
              refine mx_skip (i := 40) rfl (by decide +kernel) (by decide +kernel) (by decide +kernel) rfl rfl rfl (Sub.refl _) ?_
              refine mx_skip (i := 41) rfl (by decide +kernel) (by decide +kernel) (by decide +kernel) rfl rfl rfl (Sub.refl _) ?_
              refine mx_skip (i := 42) rfl (by decide +kernel) (by decide +kernel) (by decide +kernel) rfl rfl rfl (Sub.refl _) ?_
              refine mx_skip (i := 43) rfl (by decide +kernel) (by decide +kernel) (by decide +kernel) rfl rfl rfl (Sub.refl _) ?_
              refine mx_skip (i := 44) rfl (by decide +kernel) (by decide +kernel) (by decide +kernel) rfl rfl rfl (Sub.refl _) ?_
              refine mx (i := 45) rfl (by decide +kernel) (by decide +kernel) (by decide +kernel) rfl (fun w0 => ev_pick_t rfl rfl) rfl rfl (Sub.refl _) ?_
              refine mx (i := 46) rfl (by decide +kernel) (by decide +kernel) (by decide +kernel) rfl (fun w0 => ev_pick_t rfl rfl) rfl rfl (Sub.refl _) ?_
              refine mx (i := 47) rfl (by decide +kernel) (by decide +kernel) (by decide +kernel) rfl (fun w0 => ev_move rfl) rfl rfl (Sub.refl _) ?_
              refine mx_one (i := 48) (by decide +kernel) (Sub.refl _) ?_
              refine wo (i := 48) rfl ?_
              refine st_callv has16 rfl (fun w1 sw => known4_any w1) rfl rfl ?_
              refine op_nil ?_
              refine ax_then ?_
              refine mx (i := 49) rfl (by decide +kernel) (by decide +kernel) (by decide +kernel) rfl (fun w0 => ev_pick_t rfl rfl) rfl rfl (Sub.refl _) ?_
              refine mx (i := 50) rfl (by decide +kernel) (by decide +kernel) (by decide +kernel) rfl (fun w0 => ev_assign rfl) rfl rfl (Sub.refl _) ?_
              refine mx_done (by decide +kernel) (Sub.refl _) ?_
              refine ax_then ?_
              refine At.regs (L' := [(8, _)]) (.cons rfl (.nil _)) ?_
              refine cd_ret ?_
              refine rt_tmp (.inl rfl) Try.results12 rfl ?_
              exact fun w1 sw => ⟨rfl, sw.gives (.nil _)⟩
            ·
              refine mx (i := 28) rfl (by decide +kernel) (by decide +kernel) (by decide +kernel) rfl (fun w0 => ev_move rfl) rfl rfl (Sub.refl _) ?_
              refine mx (i := 29) rfl (by decide +kernel) (by decide +kernel) (by decide +kernel) rfl (fun w0 => ev_move rfl) rfl rfl (Sub.refl _) ?_
              refine mx (i := 30) rfl (by decide +kernel) (by decide +kernel) (by decide +kernel) rfl (fun w0 => ev_len_rdh (h := 3) Try.underlying22 rfl rfl (by assumption)) rfl rfl (Sub.refl _) ?_
              refine mx (i := 31) rfl (by decide +kernel) (by decide +kernel) (by decide +kernel) rfl (fun w0 => ev_convu64 Try.underlying3 Try.underlying44 rfl (by omega) (by omega)) rfl rfl (Sub.refl _) ?_
              refine mx (i := 32) rfl (by decide +kernel) (by decide +kernel) (by decide +kernel) rfl (fun w0 => ev_shl rfl rfl (by omega)) rfl rfl (Sub.refl _) ?_
              refine mx (i := 33) rfl (by decide +kernel) (by decide +kernel) (by decide +kernel) rfl (fun w0 => ev_geq rfl rfl) rfl rfl (Sub.refl _) ?_
              refine mx (i := 34) rfl (by decide +kernel) (by decide +kernel) (by decide +kernel) rfl (fun w0 => ev_pick_f rfl rfl) rfl rfl (Sub.refl _) ?_
              refine mx (i := 35) rfl (by decide +kernel) (by decide +kernel) (by decide +kernel) rfl (fun w0 => ev_move rfl) rfl rfl (Sub.refl _) ?_
              refine at_split_if (i := 66) rfl (fun hg66 => ?_) (fun hg66 => ?_)
              ·
                refine mx_skip (i := 36) rfl (by decide +kernel) (by decide +kernel) (by decide +kernel) rfl rfl rfl (Sub.refl _) ?_
                refine mx_skip (i := 37) rfl (by decide +kernel) (by decide +kernel) (by decide +kernel) rfl rfl rfl (Sub.refl _) ?_
                refine mx_skip (i := 38) rfl (by decide +kernel) (by decide +kernel) (by decide +kernel) rfl rfl rfl (Sub.refl _) ?_
                refine mx_skip (i := 39) rfl (by decide +kernel) (by decide +kernel) (by decide +kernel) rfl rfl rfl (Sub.refl _) ?_
                refine mx_skip (i := 40) rfl (by decide +kernel) (by decide +kernel) (by decide +kernel) rfl rfl rfl (Sub.refl _) ?_
                refine mx_skip (i := 41) rfl (by decide +kernel) (by decide +kernel) (by decide +kernel) rfl rfl rfl (Sub.refl _) ?_
                refine mx_skip (i := 42) rfl (by decide +kernel) (by decide +kernel) (by decide +kernel) rfl rfl rfl (Sub.refl _) ?_
                refine mx_skip (i := 43) rfl (by decide +kernel) (by decide +kernel) (by decide +kernel) rfl rfl rfl (Sub.refl _) ?_
                refine mx_skip (i := 44) rfl (by decide +kernel) (by decide +kernel) (by decide +kernel) rfl rfl rfl (Sub.refl _) ?_
                refine mx (i := 45) rfl (by decide +kernel) (by decide +kernel) (by decide +kernel) rfl (fun w0 => ev_pick_t rfl rfl) rfl rfl (Sub.refl _) ?_
                refine mx (i := 46) rfl (by decide +kernel) (by decide +kernel) (by decide +kernel) rfl (fun w0 => ev_pick_t rfl rfl) rfl rfl (Sub.refl _) ?_
                refine mx (i := 47) rfl (by decide +kernel) (by decide +kernel) (by decide +kernel) rfl (fun w0 => ev_move rfl) rfl rfl (Sub.refl _) ?_
                refine mx_one (i := 48) (by decide +kernel) (Sub.refl _) ?_
                refine wo (i := 48) rfl ?_
                refine st_callv has16 rfl (fun w1 sw => known4_any w1) rfl rfl ?_
                refine op_nil ?_
                refine ax_then ?_
                refine mx (i := 49) rfl (by decide +kernel) (by decide +kernel) (by decide +kernel) rfl (fun w0 => ev_pick_t rfl rfl) rfl rfl (Sub.refl _) ?_
                refine mx (i := 50) rfl (by decide +kernel) (by decide +kernel) (by decide +kernel) rfl (fun w0 => ev_assign rfl) rfl rfl (Sub.refl _) ?_
                refine mx_done (by decide +kernel) (Sub.refl _) ?_
                refine ax_then ?_
                refine At.regs (L' := [(8, _)]) (.cons rfl (.nil _)) ?_
                refine cd_ret ?_
                refine rt_tmp (.inl rfl) Try.results12 rfl ?_
                exact fun w1 sw => ⟨rfl, sw.gives (.nil _)⟩
              ·
                refine mx (i := 36) rfl (by decide +kernel) (by decide +kernel) (by decide +kernel) rfl (fun w0 => ld_mem_all (h := 6) ty24 rfl rfl rfl (by first | omega | (simp only [List.length_append, List.length_cons, List.length_nil, List.length_set, List.length_replicate, List.length_take, List.length_drop, ints_length, wr_length, node_len] <;> omega) | rfl)) rfl rfl (Sub.refl _) ?_
                refine mx (i := 37) rfl (by decide +kernel) (by decide +kernel) (by decide +kernel) rfl (fun w0 => ev_move rfl) rfl rfl (Sub.refl _) ?_
                refine mx (i := 38) rfl (by decide +kernel) (by decide +kernel) (by decide +kernel) rfl (fun w0 => ev_move rfl) rfl rfl (Sub.refl _) ?_
                refine mx (i := 40) rfl (by decide +kernel) (by decide +kernel) (by decide +kernel) rfl (fun w0 => ld_mem_all (h := 6) ty24 rfl rfl rfl (by first | omega | (simp only [List.length_append, List.length_cons, List.length_nil, List.length_set, List.length_replicate, List.length_take, List.length_drop, ints_length, wr_length, node_len] <;> omega) | rfl)) rfl rfl (Sub.refl _) ?_
                refine mx (i := 41) rfl (by decide +kernel) (by decide +kernel) (by decide +kernel) rfl (fun w0 => ev_move rfl) rfl rfl (Sub.refl _) ?_
                refine mx (i := 42) rfl (by decide +kernel) (by decide +kernel) (by decide +kernel) rfl (fun w0 => ev_move rfl) rfl rfl (Sub.refl _) ?_
                refine mx_one (i := 39) (by decide +kernel) (Sub.refl _) ?_
                refine wo (i := 39) rfl ?_
                refine st_callv has36 rfl (fun w1 sw => up_any leaf i q ps w1 hl (by omega) hi.2 hu' (by omega) (sw.sl_rd (h := 3) rfl)) rfl rfl ?_
                have hul1 := hul i
                refine op_nil ?_
                refine ax_then ?_
                refine mx_one (i := 43) (by decide +kernel) (Sub.refl _) ?_
                refine wo (i := 43) rfl ?_
                refine st_callv has37 rfl (fun w1 sw => rup_any leaf i q ps w1 hl (by omega) hi.2 hu' (by omega) (sw.sl_rd (h := 3) rfl)) rfl rfl ?_
                refine op_nil ?_
                refine ax_then ?_
                refine mx (i := 44) rfl (by decide +kernel) (by decide +kernel) (by decide +kernel) rfl (fun w0 => ev_eql_arr Try.underlying24 ty5 eqg24 rfl rfl (by first | omega | (simp only [List.length_append, List.length_cons, List.length_nil, List.length_set, List.length_replicate, List.length_take, List.length_drop, ints_length, wr_length, node_len] <;> omega) | rfl) (by first | omega | (simp only [List.length_append, List.length_cons, List.length_nil, List.length_set, List.length_replicate, List.length_take, List.length_drop, ints_length, wr_length, node_len] <;> omega) | rfl)) rfl rfl (Sub.refl _) ?_
                refine mx (i := 45) rfl (by decide +kernel) (by decide +kernel) (by decide +kernel) rfl (fun w0 => ev_pick_f rfl rfl) rfl rfl (Sub.refl _) ?_
                refine mx (i := 46) rfl (by decide +kernel) (by decide +kernel) (by decide +kernel) rfl (fun w0 => ev_pick_t rfl rfl) rfl rfl (Sub.refl _) ?_
                refine mx (i := 47) rfl (by decide +kernel) (by decide +kernel) (by decide +kernel) rfl (fun w0 => ev_move rfl) rfl rfl (Sub.refl _) ?_
                refine at_eq (i := 78) (v' := .bool true) rfl (by simp) ?_
                refine mx_one (i := 48) (by decide +kernel) (Sub.refl _) ?_
                refine wo (i := 48) rfl ?_
                refine st_callv has16 rfl (fun w1 sw => known4_any w1) rfl rfl ?_
                refine op_nil ?_
                refine ax_then ?_
                refine mx (i := 49) rfl (by decide +kernel) (by decide +kernel) (by decide +kernel) rfl (fun w0 => ev_pick_t rfl rfl) rfl rfl (Sub.refl _) ?_
                refine mx (i := 50) rfl (by decide +kernel) (by decide +kernel) (by decide +kernel) rfl (fun w0 => ev_assign rfl) rfl rfl (Sub.refl _) ?_
                refine mx_done (by decide +kernel) (Sub.refl _) ?_
                refine ax_then ?_
                refine At.regs (L' := [(8, _)]) (.cons rfl (.nil _)) ?_
                refine cd_ret ?_
                refine rt_tmp (.inl rfl) Try.results12 rfl ?_
                exact fun w1 sw => ⟨rfl, sw.gives (.nil _)⟩

set_option maxRecDepth 20000 in
set_option maxHeartbeats 4000000 in
theorem merkleOrder_any (p : Value) (cs : List (List Int)) (i : Int) (w : World) (hi : (-9223372036854775808 ≤ i ∧ i ≤ 9223372036854775807)) (hu : H32 cs) (hcl : cs.length ≤ 4398046511104) (h : Rd w p 32 (flat cs)) : Calls Try.prog 11 #[p, .int .i64 i] w (PostV w (.bool true)) := by
  refine calls_at (vs := [p, .int .i64 i]) (X := []) (H := []) (F := [(0, .sl p 32 (flat (cs)))]) 50 Try.func11 rfl rfl rfl (Sat.rd0 0 h) ?_
  refine cd_seq ?_
  refine cd_region ?_
  refine st (ev_assign rfl) rfl rfl rfl ?_
  refine op_nil ?_
  refine ax_then ?_
  refine At.regs (L' := [(0, _), (1, _), (4, _)]) (.cons rfl (.cons rfl (.cons rfl (.nil _)))) ?_
  refine cd_seq ?_
  refine cd_seq ?_
  refine cd_region ?_
  refine st (ev_move rfl) rfl rfl rfl ?_
  refine st (ev_len_rdh (h := 0) Try.underlying22 rfl rfl (by assumption)) rfl rfl rfl ?_
  refine st (ev_gtr rfl rfl) rfl rfl rfl ?_
  refine op_nil ?_
  refine ax_then ?_
  refine At.regs (L' := [(0, _), (1, _), (4, _), (8, _)]) (.cons rfl (.cons rfl (.cons rfl (.cons rfl (.nil _))))) ?_
  refine cd_if rfl (fun hc8 => ?_) (fun hc8 => ?_)
  ·
    refine cd_seq ?_
    refine cd_region ?_
    refine st (ev_assign rfl) rfl rfl rfl ?_
    refine op_nil ?_
    refine ax_then ?_
    refine At.regs (L' := [(0, _), (1, _), (4, _)]) (.cons rfl (.cons rfl (.cons rfl (.nil _)))) ?_
    refine cd_ret ?_
    refine ax_then_ret ?_
    refine rt_tmp (.inl rfl) Try.results11 rfl ?_
    exact fun w1 sw => ⟨rfl, sw.gives (.nil _)⟩
  ·
    refine cd_skip ?_
    refine ax_then ?_
    refine At.regs (L' := [(0, _), (1, _), (4, _)]) (.cons rfl (.cons rfl (.cons rfl (.nil _)))) ?_
    refine cd_join (ι := Int) (fun j => (¬ (0 ≤ j ∧ j < cs.length)) ∧ (-9223372036854775808 ≤ j ∧ j ≤ 9223372036854775807)) (fun j => [(0, p), (1, .int .i64 j)]) (fun j => []) (fun j => [(0, .sl p 32 (flat (cs)))]) ?_ (fun j hj => ?_)
    ·
      refine cd_seq ?_
      refine cd_region ?_
      refine st (ev_move rfl) rfl rfl rfl ?_
      refine st (ev_geq rfl rfl) rfl rfl rfl ?_
      refine st (ev_move rfl) rfl rfl rfl ?_
      refine at_split_if (i := 11) rfl (fun hg11 => ?_) (fun hg11 => ?_)
      ·
        refine st (ev_move rfl) rfl rfl rfl ?_
        refine st (ev_move rfl) rfl rfl rfl ?_
        refine st (ev_len_rdh (h := 0) Try.underlying22 rfl rfl (by assumption)) rfl rfl rfl ?_
        refine st (ev_lss rfl rfl) rfl rfl rfl ?_
        refine st (ev_pick_t rfl rfl) rfl rfl rfl ?_
        refine op_nil ?_
        refine ax_then ?_
        refine At.regs (L' := [(0, _), (1, _), (4, _), (16, _)]) (.cons rfl (.cons rfl (.cons rfl (.cons rfl (.nil _))))) ?_
        refine cd_if rfl (fun hc16 => ?_) (fun hc16 => ?_)
        ·
          refine cd_region ?_
          refine st (ev_move rfl) rfl rfl rfl ?_
          refine st (ev_sub64 rfl rfl (by omega) (by omega)) rfl rfl rfl ?_
          refine st (ev_assign rfl) rfl rfl rfl ?_
          refine op_nil ?_
          exact at_met (-1 - i) (⟨by omega, by omega⟩) (.cons rfl (.cons rfl (.nil _))) (.nil _) (.cons rfl (.nil _))
        ·
          refine cd_skip ?_
          exact at_met (i) (⟨by omega, by omega⟩) (.cons rfl (.cons rfl (.nil _))) (.nil _) (.cons rfl (.nil _))
      ·
        refine st_skip rfl rfl rfl ?_
        refine st_skip rfl rfl rfl ?_
        refine st_skip rfl rfl rfl ?_
        refine st_skip rfl rfl rfl ?_
        refine st (ev_pick_f rfl rfl) rfl rfl rfl ?_
        refine op_nil ?_
        refine ax_then ?_
        refine At.regs (L' := [(0, _), (1, _), (4, _), (16, _)]) (.cons rfl (.cons rfl (.cons rfl (.cons rfl (.nil _))))) ?_
        refine cd_false rfl ?_
        refine cd_skip ?_
        exact at_met (i) (⟨by omega, by omega⟩) (.cons rfl (.cons rfl (.nil _))) (.nil _) (.cons rfl (.nil _))
    ·
      refine cd_seq ?_
      refine cd_region ?_
      refine st (ev_move rfl) rfl rfl rfl ?_
      refine st (ev_move rfl) rfl rfl rfl ?_
      refine st (ev_len_rdh (h := 0) Try.underlying22 rfl rfl (by assumption)) rfl rfl rfl ?_
      refine st (ev_min2 rfl rfl) rfl rfl rfl ?_
      refine st (ev_sliceh_hi Try.underlying22 ty24 rfl rfl (fun w1 sw => sw.sl_rd (h := 0) rfl) (by assumption) (by omega) (by first | omega | (simp only [List.length_append, List.length_cons, List.length_nil, List.length_set, List.length_replicate, List.length_take, List.length_drop, ints_length, wr_length, node_len] <;> omega))) rfl rfl rfl ?_
      refine at_eq (i := 23) (v' := cutAt 32 p 0 (min 1 cs.length)) rfl (by congr 1; omega) ?_
      have hrl := root_len (hu.take (min 1 cs.length))
      have hone : 0 < cs.length → root (cs.take (min 1 cs.length)) = cs.getD (Int.toNat 0) [] := fun h0 => by
        rw [root_small (by rw [List.length_take]; omega), show min 1 cs.length = 1 by omega]
        match cs, h0 with
        | a :: r, _ => rfl
      have hgg : 0 < cs.length → (cs.getD (Int.toNat 0) []).length = 32 := fun h0 => hu.get h0
      refine st_callv has14 rfl (fun w1 sw => root_any (cutAt 32 p 0 (min 1 cs.length)) (cs.take (min 1 cs.length)) w1 (hu.take _) (by rw [List.length_take]; omega) (takeh (sw.sl_rd (h := 0) rfl) hu (by omega))) rfl rfl ?_
      refine st_alloc (h := 5) ty24 rfl rfl rfl (fun b5 => ?_)
      refine st_store_all 5 ty24 rfl rfl rfl rfl (by first | omega | (simp only [List.length_append, List.length_cons, List.length_nil, List.length_set, List.length_replicate, List.length_take, List.length_drop, ints_length, wr_length, node_len] <;> omega) | rfl) (ints_one _ _) (by first | omega | (simp only [List.length_append, List.length_cons, List.length_nil, List.length_set, List.length_replicate, List.length_take, List.length_drop, ints_length, wr_length, node_len] <;> omega) | rfl) rfl ?_
      refine op_nil ?_
      refine ax_then ?_
      refine At.regs (L' := [(0, _), (1, _), (5, _)]) (.cons rfl (.cons rfl (.cons rfl (.nil _)))) ?_
      refine cd_seq ?_
      refine at_freeze_blk (h := 5) (H' := []) 5 rfl (.nil _) rfl ?_
      refine cd_mix hmix ?_
      refine mx (i := 0) rfl (by decide +kernel) (by decide +kernel) (by decide +kernel) rfl (fun w0 => ev_move rfl) rfl rfl (Sub.refl _) ?_
      refine mx (i := 1) rfl (by decide +kernel) (by decide +kernel) (by decide +kernel) rfl (fun w0 => ev_move rfl) rfl rfl (Sub.refl _) ?_
      refine mx_one (i := 2) (by decide +kernel) (Sub.refl _) ?_
      refine wo (i := 2) rfl ?_
      refine st_call has32 rfl (fun w1 sw => rn 27 (path_any p (cs) (j) w1 hu (by omega) (by omega) (sw.sl_rd (h := 0) rfl))) nil_all rfl rfl (fun v27 _ => ?_)
      have hu27 := path_h32 _ (cs) (j) (Nat.le_refl _) hu
      have hpm27 := path_max _ (cs) (j) (Nat.le_refl _)
      refine op_nil ?_
      refine ax_then ?_
      refine mx_one (i := 3) (by decide +kernel) (Sub.refl _) ?_
      refine wo (i := 3) rfl ?_
      refine st (ev_len_ownh (h := 27) Try.underlying22 rfl rfl (by assumption)) rfl rfl rfl ?_
      refine op_nil ?_
      refine ax_then ?_
      refine mx (i := 4) rfl (by decide +kernel) (by decide +kernel) (by decide +kernel) rfl (fun w0 => ev_eql rfl rfl) rfl rfl (Sub.refl _) ?_
      refine mx (i := 5) rfl (by decide +kernel) (by decide +kernel) (by decide +kernel) rfl (fun w0 => ev_move rfl) rfl rfl (Sub.refl _) ?_
      refine at_eq (i := 30) (v' := .bool true) rfl (by rw [path_no (by omega)]; rfl) ?_
      refine mx (i := 7) rfl (by decide +kernel) (by decide +kernel) (by decide +kernel) rfl (fun w0 => ev_build_array ty24 rfl ty5 rfl rfl) rfl rfl (Sub.refl _) ?_
      refine mx_one (i := 6) (by decide +kernel) (Sub.refl _) ?_
      refine wo (i := 6) rfl ?_
      refine st_callv has14 rfl (fun w1 sw => root_any (.slice none 0 0) [] w1 H32.nil (by decide) rd_nilh) rfl rfl ?_
      refine at_eq (i := 31) (v' := .agg (ints .u8 (List.replicate 32 0)).toArray) rfl (by rw [root_nil]) ?_
      refine op_nil ?_
      refine ax_then ?_
      refine mx (i := 8) rfl (by decide +kernel) (by decide +kernel) (by decide +kernel) rfl (fun w0 => ev_eql_arr Try.underlying24 ty5 eqg24 rfl rfl (by first | omega | (simp only [List.length_append, List.length_cons, List.length_nil, List.length_set, List.length_replicate, List.length_take, List.length_drop, ints_length, wr_length, node_len] <;> omega) | rfl) (by first | omega | (simp only [List.length_append, List.length_cons, List.length_nil, List.length_set, List.length_replicate, List.length_take, List.length_drop, ints_length, wr_length, node_len] <;> omega) | rfl)) rfl rfl (Sub.refl _) ?_
      refine mx (i := 9) rfl (by decide +kernel) (by decide +kernel) (by decide +kernel) rfl (fun w0 => ev_pick_t rfl rfl) rfl rfl (Sub.refl _) ?_
      refine mx (i := 10) rfl (by decide +kernel) (by decide +kernel) (by decide +kernel) rfl (fun w0 => ev_move rfl) rfl rfl (Sub.refl _) ?_
      refine at_eq (i := 35) (v' := .bool true) rfl (by simp) ?_
      refine mx (i := 11) rfl (by decide +kernel) (by decide +kernel) (by decide +kernel) rfl (fun w0 => ev_move rfl) rfl rfl (Sub.refl _) ?_
      refine mx (i := 12) rfl (by decide +kernel) (by decide +kernel) (by decide +kernel) rfl (fun w0 => ev_len_rdh (h := 0) Try.underlying22 rfl rfl (by assumption)) rfl rfl (Sub.refl _) ?_
      refine mx (i := 13) rfl (by decide +kernel) (by decide +kernel) (by decide +kernel) rfl (fun w0 => ev_eql rfl rfl) rfl rfl (Sub.refl _) ?_
      refine mx (i := 14) rfl (by decide +kernel) (by decide +kernel) (by decide +kernel) rfl (fun w0 => ev_move rfl) rfl rfl (Sub.refl _) ?_
      refine at_split_if (i := 39) rfl (fun hg39 => ?_) (fun hg39 => ?_)
      ·
        refine mx_skip (i := 15) rfl (by decide +kernel) (by decide +kernel) (by decide +kernel) rfl rfl rfl (Sub.refl _) ?_
        refine mx_skip (i := 16) rfl (by decide +kernel) (by decide +kernel) (by decide +kernel) rfl rfl rfl (Sub.refl _) ?_
        refine mx_skip (i := 17) rfl (by decide +kernel) (by decide +kernel) (by decide +kernel) rfl rfl rfl (Sub.refl _) ?_
        refine mx_skip (i := 18) rfl (by decide +kernel) (by decide +kernel) (by decide +kernel) rfl rfl rfl (Sub.refl _) ?_
        refine mx_skip (i := 19) rfl (by decide +kernel) (by decide +kernel) (by decide +kernel) rfl rfl rfl (Sub.refl _) ?_
        refine mx (i := 20) rfl (by decide +kernel) (by decide +kernel) (by decide +kernel) rfl (fun w0 => ev_pick_t rfl rfl) rfl rfl (Sub.refl _) ?_
        refine mx (i := 21) rfl (by decide +kernel) (by decide +kernel) (by decide +kernel) rfl (fun w0 => ev_pick_t rfl rfl) rfl rfl (Sub.refl _) ?_
        refine mx (i := 22) rfl (by decide +kernel) (by decide +kernel) (by decide +kernel) rfl (fun w0 => ev_move rfl) rfl rfl (Sub.refl _) ?_
        refine mx_one (i := 23) (by decide +kernel) (Sub.refl _) ?_
        refine wo (i := 23) rfl ?_
        refine st_callv has16 rfl (fun w1 sw => known4_any w1) rfl rfl ?_
        refine op_nil ?_
        refine ax_then ?_
        refine mx (i := 24) rfl (by decide +kernel) (by decide +kernel) (by decide +kernel) rfl (fun w0 => ev_pick_t rfl rfl) rfl rfl (Sub.refl _) ?_
        refine mx (i := 25) rfl (by decide +kernel) (by decide +kernel) (by decide +kernel) rfl (fun w0 => ev_assign rfl) rfl rfl (Sub.refl _) ?_
        refine mx_done (by decide +kernel) (Sub.refl _) ?_
        refine ax_then ?_
        refine At.regs (L' := [(4, _)]) (.cons rfl (.nil _)) ?_
        refine cd_ret ?_
        refine rt_tmp (.inl rfl) Try.results11 rfl ?_
        exact fun w1 sw => ⟨rfl, sw.gives (.nil _)⟩
      ·
        refine mx (i := 15) rfl (by decide +kernel) (by decide +kernel) (by decide +kernel) rfl (fun w0 => ld_mem_all (h := 5) ty24 rfl rfl rfl (by first | omega | (simp only [List.length_append, List.length_cons, List.length_nil, List.length_set, List.length_replicate, List.length_take, List.length_drop, ints_length, wr_length, node_len] <;> omega) | rfl)) rfl rfl (Sub.refl _) ?_
        refine mx (i := 16) rfl (by decide +kernel) (by decide +kernel) (by decide +kernel) rfl (fun w0 => ev_move rfl) rfl rfl (Sub.refl _) ?_
        refine mx (i := 17) rfl (by decide +kernel) (by decide +kernel) (by decide +kernel) rfl (fun w0 => ev_indexAddr_rdh (h := 0) Try.underlying22 ty24 rfl rfl rfl (by assumption) (by omega) (by omega)) rfl rfl (Sub.refl _) ?_
        refine mx (i := 18) rfl (by decide +kernel) (by decide +kernel) (by decide +kernel) rfl (fun w0 => ld_rdh (h := 0) ty24 rfl rfl rfl (by assumption) (by omega)) rfl rfl (Sub.refl _) ?_
        refine mx (i := 19) rfl (by decide +kernel) (by decide +kernel) (by decide +kernel) rfl (fun w0 => ev_eql_arr Try.underlying24 ty5 eqg24 rfl rfl (by first | omega | (simp only [List.length_append, List.length_cons, List.length_nil, List.length_set, List.length_replicate, List.length_take, List.length_drop, ints_length, wr_length, node_len] <;> omega) | rfl) (by first | omega | (simp only [List.length_append, List.length_cons, List.length_nil, List.length_set, List.length_replicate, List.length_take, List.length_drop, ints_length, wr_length, node_len] <;> omega) | rfl)) rfl rfl (Sub.refl _) ?_
        refine mx (i := 20) rfl (by decide +kernel) (by decide +kernel) (by decide +kernel) rfl (fun w0 => ev_pick_f rfl rfl) rfl rfl (Sub.refl _) ?_
        refine mx (i := 21) rfl (by decide +kernel) (by decide +kernel) (by decide +kernel) rfl (fun w0 => ev_pick_t rfl rfl) rfl rfl (Sub.refl _) ?_
        refine mx (i := 22) rfl (by decide +kernel) (by decide +kernel) (by decide +kernel) rfl (fun w0 => ev_move rfl) rfl rfl (Sub.refl _) ?_
        refine at_eq (i := 47) (v' := .bool true) rfl (by rw [hone (by omega)]; simp) ?_
        refine mx_one (i := 23) (by decide +kernel) (Sub.refl _) ?_
        refine wo (i := 23) rfl ?_
        refine st_callv has16 rfl (fun w1 sw => known4_any w1) rfl rfl ?_
        refine op_nil ?_
        refine ax_then ?_
        refine mx (i := 24) rfl (by decide +kernel) (by decide +kernel) (by decide +kernel) rfl (fun w0 => ev_pick_t rfl rfl) rfl rfl (Sub.refl _) ?_
        refine mx (i := 25) rfl (by decide +kernel) (by decide +kernel) (by decide +kernel) rfl (fun w0 => ev_assign rfl) rfl rfl (Sub.refl _) ?_
        refine mx_done (by decide +kernel) (Sub.refl _) ?_
        refine ax_then ?_
        refine At.regs (L' := [(4, _)]) (.cons rfl (.nil _)) ?_
        refine cd_ret ?_
        refine rt_tmp (.inl rfl) Try.results11 rfl ?_
        exact fun w1 sw => ⟨rfl, sw.gives (.nil _)⟩

end Go.Proofs.Ytobbhelaajcpcaa
