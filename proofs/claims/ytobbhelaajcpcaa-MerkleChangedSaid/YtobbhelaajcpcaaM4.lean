/- Walks: the laws of chapter 4. -/
import Derived.Test.YtobbhelaajcpcaaM3
import Derived.Test.YtobbhelaajcpcaaFw16
namespace Go.Proofs.Ytobbhelaajcpcaa
open Go Go.RowKit Fw
open Sha
open Mk
set_option linter.unusedVariables false
set_option linter.unusedSimpArgs false

/-- the leaves of the law MerkleUp -/
def upl (ss : List (List Int)) (n : Nat) : List (List Int) := (List.range n).map fun k => (ss.getD (k % ss.length) []).set 0 (IntKind.u8.wrap (k : Int))
theorem upl_snoc (ss : List (List Int)) (n : Nat) : upl ss (n + 1) = upl ss n ++ [(ss.getD (n % ss.length) []).set 0 (IntKind.u8.wrap (n : Int))] := by simp [upl, List.range_succ]
theorem upl_len (ss : List (List Int)) (n : Nat) : (upl ss n).length = n := by simp [upl]
theorem upl_h32 {ss : List (List Int)} (hu : H32 ss) (h0 : 0 < ss.length) (n : Nat) : H32 (upl ss n) := fun h hh => by
  simp only [upl, List.mem_map] at hh
  obtain ⟨c, _, rfl⟩ := hh
  rw [List.length_set]
  exact hu.get (Nat.mod_lt _ h0)
theorem pow32 {j : Nat} (h : j ≤ 5) : 2 ^ j ≤ 32 := Nat.pow_le_pow_right (by decide) h

set_option maxRecDepth 20000 in
set_option maxHeartbeats 4000000 in
theorem merkleUp_any (p : Value) (ss : List (List Int)) (high i : Int) (w : World) (hu : H32 ss) (hcl : ss.length ≤ 4398046511104) (h : Rd w p 32 (flat ss)) : Calls Try.prog 13 #[p, .int .i64 high, .int .i64 i] w (PostV w (.bool true)) := by
  refine calls_at (vs := [p, .int .i64 high, .int .i64 i]) (X := []) (H := []) (F := [(0, .sl p 32 (flat (ss)))]) 71 Try.func13 rfl rfl rfl (Sat.rd0 0 h) ?_
  refine cd_seq ?_
  refine cd_region ?_
  refine st (ev_assign rfl) rfl rfl rfl ?_
  refine op_nil ?_
  refine ax_then ?_
  refine At.regs (L' := [(0, _), (1, _), (2, _), (6, _)]) (.cons rfl (.cons rfl (.cons rfl (.cons rfl (.nil _))))) ?_
  refine cd_seq ?_
  refine cd_seq ?_
  refine cd_region ?_
  refine st (ev_move rfl) rfl rfl rfl ?_
  refine st (ev_len_rdh (h := 0) Try.underlying22 rfl rfl (by assumption)) rfl rfl rfl ?_
  refine st (ev_eql rfl rfl) rfl rfl rfl ?_
  refine st (ev_move rfl) rfl rfl rfl ?_
  refine at_split_if (i := 15) rfl (fun hg15 => ?_) (fun hg15 => ?_)
  ·
    refine st_skip rfl rfl rfl ?_
    refine st_skip rfl rfl rfl ?_
    refine st (ev_pick_t rfl rfl) rfl rfl rfl ?_
    refine st (ev_move rfl) rfl rfl rfl ?_
    refine st_skip rfl rfl rfl ?_
    refine st_skip rfl rfl rfl ?_
    refine st (ev_pick_t rfl rfl) rfl rfl rfl ?_
    refine op_nil ?_
    refine ax_then ?_
    refine At.regs (L' := [(0, _), (1, _), (2, _), (6, _), (22, _)]) (.cons rfl (.cons rfl (.cons rfl (.cons rfl (.cons rfl (.nil _)))))) ?_
    refine cd_true rfl ?_
    refine cd_seq ?_
    refine cd_region ?_
    refine st (ev_assign rfl) rfl rfl rfl ?_
    refine op_nil ?_
    refine ax_then ?_
    refine At.regs (L' := [(0, _), (1, _), (2, _), (6, _)]) (.cons rfl (.cons rfl (.cons rfl (.cons rfl (.nil _))))) ?_
    refine cd_ret ?_
    refine ax_then_ret ?_
    refine rt_tmp (.inl rfl) Try.results13 rfl ?_
    exact fun w1 sw => ⟨rfl, sw.gives (.nil _)⟩
  ·
    refine st (ev_move rfl) rfl rfl rfl ?_
    refine st (ev_lss rfl rfl) rfl rfl rfl ?_
    refine st (ev_pick_f rfl rfl) rfl rfl rfl ?_
    refine st (ev_move rfl) rfl rfl rfl ?_
    refine at_split_if (i := 19) rfl (fun hg19 => ?_) (fun hg19 => ?_)
    ·
      refine st_skip rfl rfl rfl ?_
      refine st_skip rfl rfl rfl ?_
      refine st (ev_pick_t rfl rfl) rfl rfl rfl ?_
      refine op_nil ?_
      refine ax_then ?_
      refine At.regs (L' := [(0, _), (1, _), (2, _), (6, _), (22, _)]) (.cons rfl (.cons rfl (.cons rfl (.cons rfl (.cons rfl (.nil _)))))) ?_
      refine cd_true rfl ?_
      refine cd_seq ?_
      refine cd_region ?_
      refine st (ev_assign rfl) rfl rfl rfl ?_
      refine op_nil ?_
      refine ax_then ?_
      refine At.regs (L' := [(0, _), (1, _), (2, _), (6, _)]) (.cons rfl (.cons rfl (.cons rfl (.cons rfl (.nil _))))) ?_
      refine cd_ret ?_
      refine ax_then_ret ?_
      refine rt_tmp (.inl rfl) Try.results13 rfl ?_
      exact fun w1 sw => ⟨rfl, sw.gives (.nil _)⟩
    ·
      refine st (ev_move rfl) rfl rfl rfl ?_
      refine st (ev_gtr rfl rfl) rfl rfl rfl ?_
      refine st (ev_pick_f rfl rfl) rfl rfl rfl ?_
      refine op_nil ?_
      refine ax_then ?_
      refine At.regs (L' := [(0, _), (1, _), (2, _), (6, _), (22, _)]) (.cons rfl (.cons rfl (.cons rfl (.cons rfl (.cons rfl (.nil _)))))) ?_
      refine cd_if rfl (fun hc22 => ?_) (fun hc22 => ?_)
      ·
        refine cd_seq ?_
        refine cd_region ?_
        refine st (ev_assign rfl) rfl rfl rfl ?_
        refine op_nil ?_
        refine ax_then ?_
        refine At.regs (L' := [(0, _), (1, _), (2, _), (6, _)]) (.cons rfl (.cons rfl (.cons rfl (.cons rfl (.nil _))))) ?_
        refine cd_ret ?_
        refine ax_then_ret ?_
        refine rt_tmp (.inl rfl) Try.results13 rfl ?_
        exact fun w1 sw => ⟨rfl, sw.gives (.nil _)⟩
      ·
        obtain ⟨g, rfl⟩ := Int.eq_ofNat_of_zero_le (show 0 ≤ high by omega)
        refine cd_skip ?_
        refine ax_then ?_
        refine At.regs (L' := [(0, _), (1, _), (2, _), (6, _)]) (.cons rfl (.cons rfl (.cons rfl (.cons rfl (.nil _))))) ?_
        refine cd_seq ?_
        refine cd_region ?_
        refine st (ev_assign rfl) rfl rfl rfl ?_
        refine at_own_nil 7 24 32 ?_
        refine at_heq (i := 7) (v' := .own (.slice none 0 0) 24 32 (flat [])) rfl rfl ?_
        have hu7 := H32.nil
        refine op_nil ?_
        refine ax_then ?_
        refine At.regs (L' := [(0, _), (1, _), (2, _), (6, _), (7, _)]) (.cons rfl (.cons rfl (.cons rfl (.cons rfl (.cons rfl (.nil _)))))) ?_
        refine cd_seq ?_
        refine cd_seq ?_
        refine cd_region ?_
        refine st (ev_assign rfl) rfl rfl rfl ?_
        refine op_nil ?_
        refine ax_then ?_
        refine At.regs (L' := [(0, _), (1, _), (2, _), (6, _), (7, _), (8, _)]) (.cons rfl (.cons rfl (.cons rfl (.cons rfl (.cons rfl (.cons rfl (.nil _))))))) ?_
        refine cd_block ?_
        refine cd_loop (ι := Nat × Value) (fun x => x.1 ≤ 2 ^ g) (fun x => 2 ^ g - x.1)
            (fun x => [(0, p), (1, .int .i64 (g : Int)), (2, .int .i64 i), (7, x.2), (8, .int .i64 (x.1 : Int))])
            (fun x => [(7, .own (x.2) 24 32 (flat (upl ss (x.1))))])
            (fun x => [(0, .sl p 32 (flat (ss)))])
            (0, .slice none 0 0) (Nat.zero_le _) (.cons rfl (.cons rfl (.cons rfl (.cons rfl (.cons rfl (.nil _)))))) (.cons rfl (.nil _)) (.cons rfl (.nil _)) (fun x hi => ?_)
        have hsu := upl_h32 hu (by omega) x.1
        have hsn := upl_len ss x.1
        have hp := pow32 (j := g) (by omega)
        have hg0 : 0 < ss.length := by omega
        have hmd := Nat.mod_lt x.1 hg0
        have hgx : (ss.getD (x.1 % ss.length) []).length = 32 := hu.get (Nat.mod_lt _ hg0)
        have hgs : ∀ (q : Nat) (y : Int), ((ss.getD (x.1 % ss.length) []).set q y).length = 32 := fun q y => by rw [List.length_set, hgx]
        have e0 : ((x.1 : Int) % (ss.length : Int)).toNat = x.1 % ss.length := by omega
        refine cd_seq ?_
        refine cd_seq ?_
        refine cd_region ?_
        refine st (ev_move rfl) rfl rfl rfl ?_
        refine st (ev_move rfl) rfl rfl rfl ?_
        refine st (ev_convu64 Try.underlying3 Try.underlying44 rfl (by omega) (by omega)) rfl rfl rfl ?_
        refine st (ev_shl rfl rfl (by omega)) rfl rfl rfl ?_
        refine at_eq (i := 26) (v' := .int .i64 ((2 ^ g : Nat) : Int)) rfl (by rw [ishl1 _ (by omega)]) ?_
        refine st (ev_lss rfl rfl) rfl rfl rfl ?_
        refine op_nil ?_
        refine ax_then ?_
        refine At.regs (L' := [(0, _), (1, _), (2, _), (7, _), (8, _), (23, _), (24, _), (25, _), (26, _), (27, _)]) (.cons rfl (.cons rfl (.cons rfl (.cons rfl (.cons rfl (.cons rfl (.cons rfl (.cons rfl (.cons rfl (.cons rfl (.nil _))))))))))) ?_
        refine cd_if rfl (fun hc27 => ?_) (fun hc27 => ?_)
        ·
          refine cd_skip ?_
          refine ax_then ?_
          refine At.regs (L' := [(0, _), (1, _), (2, _), (7, _), (8, _), (23, _), (24, _), (25, _), (26, _), (27, _)]) (.cons rfl (.cons rfl (.cons rfl (.cons rfl (.cons rfl (.cons rfl (.cons rfl (.cons rfl (.cons rfl (.cons rfl (.nil _))))))))))) ?_
          refine cd_seq ?_
          refine cd_block ?_
          refine cd_seq ?_
          refine cd_region ?_
          refine st (ev_move rfl) rfl rfl rfl ?_
          refine st (ev_move rfl) rfl rfl rfl ?_
          refine st (ev_move rfl) rfl rfl rfl ?_
          refine st (ev_len_rdh (h := 0) Try.underlying22 rfl rfl (by assumption)) rfl rfl rfl ?_
          refine st (ev_rem64 rfl rfl (by omega) (by omega)) rfl rfl rfl ?_
          refine st (ev_indexAddr_rdh (h := 0) Try.underlying22 ty24 rfl rfl rfl (by assumption) (by omega) (by omega)) rfl rfl rfl ?_
          refine st (ld_rdh (h := 0) ty24 rfl rfl rfl (by assumption) (by omega)) rfl rfl rfl ?_
          refine at_eq (i := 36) (v' := .agg (ints .u8 (ss.getD (x.1 % ss.length) [])).toArray) rfl (by rw [e0]) ?_
          refine st_alloc (h := 9) ty24 rfl rfl rfl (fun b9 => ?_)
          refine st_store_all 9 ty24 rfl rfl rfl rfl (by first | omega | (simp only [List.length_append, List.length_cons, List.length_nil, List.length_set, List.length_replicate, List.length_take, List.length_drop, ints_length, wr_length, node_len] <;> omega) | rfl) (ints_one _ _) (by first | omega | (simp only [List.length_append, List.length_cons, List.length_nil, List.length_set, List.length_replicate, List.length_take, List.length_drop, ints_length, wr_length, node_len] <;> omega) | rfl) rfl ?_
          refine op_nil ?_
          refine ax_then ?_
          refine At.regs (L' := [(0, _), (1, _), (2, _), (7, _), (8, _), (9, _), (23, _), (24, _), (25, _), (26, _), (27, _), (30, _), (31, _), (32, _), (33, _), (34, _), (35, _), (36, _)]) (.cons rfl (.cons rfl (.cons rfl (.cons rfl (.cons rfl (.cons rfl (.cons rfl (.cons rfl (.cons rfl (.cons rfl (.cons rfl (.cons rfl (.cons rfl (.cons rfl (.cons rfl (.cons rfl (.cons rfl (.cons rfl (.nil _))))))))))))))))))) ?_
          refine cd_seq ?_
          refine cd_region ?_
          refine st (ev_move rfl) rfl rfl rfl ?_
          refine st (ev_conv Try.underlying3 Try.underlying5 rfl) rfl rfl rfl ?_
          refine st (ev_indexAddr_arrm 0 rfl Try.underlying24 ty5 rfl rfl (by decide) (by decide)) rfl rfl rfl ?_
          refine st_store1 9 ty5 rfl rfl rfl rfl (by first | omega | (simp only [List.length_append, List.length_cons, List.length_nil, List.length_set, List.length_replicate, List.length_take, List.length_drop, ints_length, wr_length, node_len] <;> omega) | rfl) rfl ?_
          refine at_heq (i := 9) rfl (by rw [ints_set]) ?_
          refine op_nil ?_
          refine ax_then ?_
          refine At.regs (L' := [(0, _), (1, _), (2, _), (7, _), (8, _), (9, _), (23, _), (24, _), (25, _), (26, _), (27, _), (30, _), (31, _), (32, _), (33, _), (34, _), (35, _), (36, _), (37, _), (38, _), (39, _)]) (.cons rfl (.cons rfl (.cons rfl (.cons rfl (.cons rfl (.cons rfl (.cons rfl (.cons rfl (.cons rfl (.cons rfl (.cons rfl (.cons rfl (.cons rfl (.cons rfl (.cons rfl (.cons rfl (.cons rfl (.cons rfl (.cons rfl (.cons rfl (.cons rfl (.nil _)))))))))))))))))))))) ?_
          refine cd_region ?_
          refine st (ev_move rfl) rfl rfl rfl ?_
          refine st (ld_blk_all (h := 9) ty24 rfl rfl rfl (by first | omega | (simp only [List.length_append, List.length_cons, List.length_nil, List.length_set, List.length_replicate, List.length_take, List.length_drop, ints_length, wr_length, node_len] <;> omega) | rfl)) rfl rfl rfl ?_
          have hgs2 := hgs 0 (IntKind.u8.wrap (x.1 : Int))
          refine st_bsh1 (h := 42) Try.underlying22 ty24 rfl (by first | assumption | omega) rfl rfl (fun b42 hu42 => ?_)
          refine st_appendh (h := 7) Try.underlying22 Try.underlying22 ty24 rfl rfl rfl rfl (fun w1 sw => sw.own_rd (h := 42) rfl) (by assumption) (by assumption) (by first | omega | (simp only [List.length_append, List.length_cons, List.length_nil, List.length_set, List.length_replicate, List.length_take, List.length_drop, ints_length, wr_length, node_len] <;> omega)) (by decide) rfl rfl (fun v43 hu43 => ?_)
          refine st (ev_assign rfl) rfl rfl rfl ?_
          refine op_nil ?_
          refine ax_block ?_
          refine ax_then ?_
          refine At.regs (L' := [(0, _), (1, _), (2, _), (7, _), (8, _), (9, _), (23, _), (24, _), (25, _), (26, _), (27, _), (30, _), (31, _), (32, _), (33, _), (34, _), (35, _), (36, _), (37, _), (38, _), (39, _), (40, _), (41, _), (42, _), (43, _)]) (.cons rfl (.cons rfl (.cons rfl (.cons rfl (.cons rfl (.cons rfl (.cons rfl (.cons rfl (.cons rfl (.cons rfl (.cons rfl (.cons rfl (.cons rfl (.cons rfl (.cons rfl (.cons rfl (.cons rfl (.cons rfl (.cons rfl (.cons rfl (.cons rfl (.cons rfl (.cons rfl (.cons rfl (.cons rfl (.nil _)))))))))))))))))))))))))) ?_
          refine cd_region ?_
          refine st (ev_move rfl) rfl rfl rfl ?_
          refine st (ev_add64 rfl rfl (by omega) (by omega)) rfl rfl rfl ?_
          refine st (ev_assign rfl) rfl rfl rfl ?_
          refine op_nil ?_
          refine ax_heq (i := 7) (v' := .own (v43) 24 32 (flat (upl ss (x.1 + 1)))) rfl (by rw [upl_snoc]) ?_
          exact at_again ((x.1 + 1, v43)) (by show x.1 + 1 ≤ 2 ^ g; omega) (by omega) (.cons rfl (.cons rfl (.cons rfl (.cons rfl (.cons rfl (.nil _)))))) (.cons rfl (.nil _)) (.cons rfl (.nil _))
        ·
          obtain ⟨k, u⟩ := x
          dsimp only at hi hc27 hsu hsn hp ⊢
          obtain rfl : k = 2 ^ g := by omega
          have hmk := mask_range i (m := 65535) (by decide) (by decide)
          have hp0 : 0 < 2 ^ g := Nat.pow_pos (by decide)
          refine cd_exit ?_
          refine ax_then_exit ?_
          refine ax_then_exit ?_
          refine ax_block_hit ?_
          refine ax_then ?_
          refine At.regs (L' := [(1, _), (2, _), (7, _)]) (.cons rfl (.cons rfl (.cons rfl (.nil _)))) ?_
          refine cd_seq ?_
          refine cd_region ?_
          refine st (ev_move rfl) rfl rfl rfl ?_
          refine st (ev_and rfl rfl) rfl rfl rfl ?_
          refine st (ev_move rfl) rfl rfl rfl ?_
          refine st (ev_len_ownh (h := 7) Try.underlying22 rfl rfl (by assumption)) rfl rfl rfl ?_
          refine st (ev_rem64 rfl rfl (by omega) (by omega)) rfl rfl rfl ?_
          obtain ⟨n, hn⟩ : ∃ n : Nat, iand .i64 i 65535 % ((upl ss (2 ^ g)).length : Int) = (n : Int) := ⟨_, (Int.toNat_of_nonneg (Int.emod_nonneg _ (by omega))).symm⟩
          have hn2 : n < 2 ^ g := by have := Int.emod_lt_of_pos (iand .i64 i 65535) (b := ((upl ss (2 ^ g)).length : Int)) (by omega); omega
          refine at_eq (i := 48) (v' := .int .i64 (n : Int)) rfl (by rw [hn]) ?_
          have hup := up_root g (upl ss (2 ^ g)) n hsn hn2
          have hgn : ((upl ss (2 ^ g)).getD n []).length = 32 := hsu.get (by omega)
          refine st (ev_assign rfl) rfl rfl rfl ?_
          refine op_nil ?_
          refine ax_then ?_
          refine At.regs (L' := [(1, _), (7, _), (10, _)]) (.cons rfl (.cons rfl (.cons rfl (.nil _)))) ?_
          refine cd_seq ?_
          refine cd_region ?_
          refine st (ev_move rfl) rfl rfl rfl ?_
          refine st (ev_move rfl) rfl rfl rfl ?_
          refine st_call has32 rfl (fun w1 sw => rn 51 (path_any u (upl ss (2 ^ g)) (n) w1 hsu (by omega) (by omega) (sw.own_rd (h := 7) rfl))) nil_all rfl rfl (fun v51 _ => ?_)
          have hu51 := path_h32 _ (upl ss (2 ^ g)) (n) (Nat.le_refl _) hsu
          have hpm51 := path_max _ (upl ss (2 ^ g)) (n) (Nat.le_refl _)
          refine st (ev_assign rfl) rfl rfl rfl ?_
          refine op_nil ?_
          refine ax_then ?_
          refine At.regs (L' := [(1, _), (7, _), (10, _), (11, _)]) (.cons rfl (.cons rfl (.cons rfl (.cons rfl (.nil _))))) ?_
          refine cd_seq ?_
          refine cd_region ?_
          refine st (ev_move rfl) rfl rfl rfl ?_
          refine st (ev_len_ownh (h := 51) Try.underlying22 rfl rfl (by assumption)) rfl rfl rfl ?_
          refine st (ev_move rfl) rfl rfl rfl ?_
          refine st (ev_eql rfl rfl) rfl rfl rfl ?_
          refine st (ev_move rfl) rfl rfl rfl ?_
          refine at_eq (i := 56) (v' := .bool true) rfl (by rw [hup.1]; simp) ?_
          refine st (ev_move rfl) rfl rfl rfl ?_
          refine st (ev_move rfl) rfl rfl rfl ?_
          refine st (ev_indexAddr_ownh (h := 7) Try.underlying22 ty24 rfl rfl rfl (by assumption) (by omega) (by omega)) rfl rfl rfl ?_
          refine st (ld_ownh (h := 7) ty24 rfl rfl rfl (by assumption) (by omega)) rfl rfl rfl ?_
          refine at_eq (i := 60) (v' := .agg (ints .u8 ((upl ss (2 ^ g)).getD n [])).toArray) rfl (by rw [Int.toNat_natCast]) ?_
          have hul := up_len hgn n (path (upl ss (2 ^ g)) n)
          have hrl := root_len hsu
          refine st (ev_move rfl) rfl rfl rfl ?_
          refine st (ev_move rfl) rfl rfl rfl ?_
          refine st_callv has36 rfl (fun w1 sw => up_any ((upl ss (2 ^ g)).getD n []) n v51 (path (upl ss (2 ^ g)) n) w1 hgn (by omega) (by omega) hu51 (by omega) (sw.own_rd (h := 51) rfl)) rfl rfl ?_
          refine st (ev_move rfl) rfl rfl rfl ?_
          refine st_callv has14 rfl (fun w1 sw => root_any u (upl ss (2 ^ g)) w1 hsu (by omega) (sw.own_rd (h := 7) rfl)) rfl rfl ?_
          refine st (ev_eql_arr Try.underlying24 ty5 eqg24 rfl rfl (by first | omega | (simp only [List.length_append, List.length_cons, List.length_nil, List.length_set, List.length_replicate, List.length_take, List.length_drop, ints_length, wr_length, node_len] <;> omega) | rfl) (by first | omega | (simp only [List.length_append, List.length_cons, List.length_nil, List.length_set, List.length_replicate, List.length_take, List.length_drop, ints_length, wr_length, node_len] <;> omega) | rfl)) rfl rfl rfl ?_
          refine st (ev_pick_t rfl rfl) rfl rfl rfl ?_
          refine st (ev_move rfl) rfl rfl rfl ?_
          refine at_eq (i := 68) (v' := .bool true) rfl (by rw [hup.2]; simp) ?_
          refine st_callv has16 rfl (fun w1 sw => known4_any w1) rfl rfl ?_
          refine st (ev_pick_t rfl rfl) rfl rfl rfl ?_
          refine st (ev_assign rfl) rfl rfl rfl ?_
          refine op_nil ?_
          refine ax_then ?_
          refine At.regs (L' := [(6, _)]) (.cons rfl (.nil _)) ?_
          refine cd_ret ?_
          refine rt_tmp (.inl rfl) Try.results13 rfl ?_
          exact fun w1 sw => ⟨rfl, sw.gives (.nil _)⟩

set_option maxRecDepth 20000 in
set_option maxHeartbeats 4000000 in
theorem merkleChanged_any (p : Value) (cs : List (List Int)) (i : Int) (y : Int) (w : World) (hu : H32 cs) (hcl : cs.length ≤ 4398046511104) (h : Rd w p 32 (flat cs)) : Calls Try.prog 3 #[p, .int .i64 i, .int .u8 y] w (PostV w (.bool true)) := by
  refine calls_at (vs := [p, .int .i64 i, .int .u8 y]) (X := []) (H := []) (F := [(0, .sl p 32 (flat (cs)))]) 94 Try.func3 rfl rfl rfl (Sat.rd0 0 h) ?_
  refine cd_seq ?_
  refine cd_region ?_
  refine st (ev_assign rfl) rfl rfl rfl ?_
  refine op_nil ?_
  refine ax_then ?_
  refine At.regs (L' := [(0, _), (1, _), (2, _), (6, _)]) (.cons rfl (.cons rfl (.cons rfl (.cons rfl (.nil _))))) ?_
  refine cd_seq ?_
  refine cd_seq ?_
  refine cd_region ?_
  refine st (ev_move rfl) rfl rfl rfl ?_
  refine st (ev_len_rdh (h := 0) Try.underlying22 rfl rfl (by assumption)) rfl rfl rfl ?_
  refine st (ev_lss rfl rfl) rfl rfl rfl ?_
  refine st (ev_move rfl) rfl rfl rfl ?_
  refine at_split_if (i := 16) rfl (fun hg16 => ?_) (fun hg16 => ?_)
  ·
    refine st_skip rfl rfl rfl ?_
    refine st_skip rfl rfl rfl ?_
    refine st_skip rfl rfl rfl ?_
    refine st (ev_pick_t rfl rfl) rfl rfl rfl ?_
    refine st (ev_move rfl) rfl rfl rfl ?_
    refine st_skip rfl rfl rfl ?_
    refine st_skip rfl rfl rfl ?_
    refine st (ev_pick_t rfl rfl) rfl rfl rfl ?_
    refine op_nil ?_
    refine ax_then ?_
    refine At.regs (L' := [(0, _), (1, _), (2, _), (6, _), (24, _)]) (.cons rfl (.cons rfl (.cons rfl (.cons rfl (.cons rfl (.nil _)))))) ?_
    refine cd_true rfl ?_
    refine cd_seq ?_
    refine cd_region ?_
    refine st (ev_assign rfl) rfl rfl rfl ?_
    refine op_nil ?_
    refine ax_then ?_
    refine At.regs (L' := [(0, _), (1, _), (2, _), (6, _)]) (.cons rfl (.cons rfl (.cons rfl (.cons rfl (.nil _))))) ?_
    refine cd_ret ?_
    refine ax_then_ret ?_
    refine rt_tmp (.inl rfl) Try.results3 rfl ?_
    exact fun w1 sw => ⟨rfl, sw.gives (.nil _)⟩
  ·
    refine st (ev_move rfl) rfl rfl rfl ?_
    refine st (ev_len_rdh (h := 0) Try.underlying22 rfl rfl (by assumption)) rfl rfl rfl ?_
    refine st (ev_gtr rfl rfl) rfl rfl rfl ?_
    refine st (ev_pick_f rfl rfl) rfl rfl rfl ?_
    refine st (ev_move rfl) rfl rfl rfl ?_
    refine at_split_if (i := 21) rfl (fun hg21 => ?_) (fun hg21 => ?_)
    ·
      refine st_skip rfl rfl rfl ?_
      refine st_skip rfl rfl rfl ?_
      refine st (ev_pick_t rfl rfl) rfl rfl rfl ?_
      refine op_nil ?_
      refine ax_then ?_
      refine At.regs (L' := [(0, _), (1, _), (2, _), (6, _), (24, _)]) (.cons rfl (.cons rfl (.cons rfl (.cons rfl (.cons rfl (.nil _)))))) ?_
      refine cd_true rfl ?_
      refine cd_seq ?_
      refine cd_region ?_
      refine st (ev_assign rfl) rfl rfl rfl ?_
      refine op_nil ?_
      refine ax_then ?_
      refine At.regs (L' := [(0, _), (1, _), (2, _), (6, _)]) (.cons rfl (.cons rfl (.cons rfl (.cons rfl (.nil _))))) ?_
      refine cd_ret ?_
      refine ax_then_ret ?_
      refine rt_tmp (.inl rfl) Try.results3 rfl ?_
      exact fun w1 sw => ⟨rfl, sw.gives (.nil _)⟩
    ·
      refine st (ev_move rfl) rfl rfl rfl ?_
      refine st (ev_eql rfl rfl) rfl rfl rfl ?_
      refine st (ev_pick_f rfl rfl) rfl rfl rfl ?_
      refine op_nil ?_
      refine ax_then ?_
      refine At.regs (L' := [(0, _), (1, _), (2, _), (6, _), (24, _)]) (.cons rfl (.cons rfl (.cons rfl (.cons rfl (.cons rfl (.nil _)))))) ?_
      refine cd_if rfl (fun hc24 => ?_) (fun hc24 => ?_)
      ·
        refine cd_seq ?_
        refine cd_region ?_
        refine st (ev_assign rfl) rfl rfl rfl ?_
        refine op_nil ?_
        refine ax_then ?_
        refine At.regs (L' := [(0, _), (1, _), (2, _), (6, _)]) (.cons rfl (.cons rfl (.cons rfl (.cons rfl (.nil _))))) ?_
        refine cd_ret ?_
        refine ax_then_ret ?_
        refine rt_tmp (.inl rfl) Try.results3 rfl ?_
        exact fun w1 sw => ⟨rfl, sw.gives (.nil _)⟩
      ·
        refine cd_skip ?_
        refine ax_then ?_
        refine At.regs (L' := [(0, _), (1, _), (2, _), (6, _)]) (.cons rfl (.cons rfl (.cons rfl (.cons rfl (.nil _))))) ?_
        refine cd_seq ?_
        refine cd_region ?_
        refine st (ev_move rfl) rfl rfl rfl ?_
        refine st (ev_and rfl rfl) rfl rfl rfl ?_
        have hmk := mask_range i (m := 65535) (by decide) (by decide)
        refine st (ev_move rfl) rfl rfl rfl ?_
        refine st (ev_len_rdh (h := 0) Try.underlying22 rfl rfl (by assumption)) rfl rfl rfl ?_
        refine st (ev_rem64 rfl rfl (by omega) (by omega)) rfl rfl rfl ?_
        obtain ⟨n, hn⟩ : ∃ n : Nat, iand .i64 i 65535 % (cs.length : Int) = (n : Int) := ⟨_, (Int.toNat_of_nonneg (Int.emod_nonneg _ (by omega))).symm⟩
        have hn2 : n < cs.length := by have := Int.emod_lt_of_pos (iand .i64 i 65535) (b := (cs.length : Int)) (by omega); omega
        refine at_eq (i := 29) (v' := .int .i64 (n : Int)) rfl (by rw [hn]) ?_
        refine st (ev_assign rfl) rfl rfl rfl ?_
        refine op_nil ?_
        refine ax_then ?_
        refine At.regs (L' := [(0, _), (2, _), (6, _), (7, _)]) (.cons rfl (.cons rfl (.cons rfl (.cons rfl (.nil _))))) ?_
        refine cd_seq ?_
        refine cd_region ?_
        refine st_buildSlice (h := 30) (cells := flat []) Try.underlying22 ty24 rfl (by decide) (by simp only [Instr.fill, flat]; exact congrArg some (Array.eq_empty_of_size_eq_zero (by simp))) (by rfl) rfl rfl (fun b30 => ?_)
        have hn30 := H32.nil
        have hu30 := hu
        refine st (ev_move rfl) rfl rfl rfl ?_
        refine st_appendh (h := 30) Try.underlying22 Try.underlying22 ty24 rfl rfl rfl rfl (fun w1 sw => sw.sl_rd (h := 0) rfl) (by assumption) (by assumption) (by first | omega | (simp only [List.length_append, List.length_cons, List.length_nil, List.length_set, List.length_replicate, List.length_take, List.length_drop, ints_length, wr_length, node_len] <;> omega)) (by decide) rfl rfl (fun v32 hu32 => ?_)
        refine at_heq (i := 30) (v' := .own (v32) 24 32 (flat (cs))) rfl (by rw [List.nil_append]) ?_
        have hux := hu
        refine st (ev_assign rfl) rfl rfl rfl ?_
        refine op_nil ?_
        refine ax_then ?_
        refine At.regs (L' := [(0, _), (2, _), (6, _), (7, _), (8, _)]) (.cons rfl (.cons rfl (.cons rfl (.cons rfl (.cons rfl (.nil _)))))) ?_
        refine cd_seq ?_
        refine cd_open_tail 8 hmix (by decide +kernel) ?_
        refine qt (ev_move rfl) rfl rfl rfl ?_
        refine qt (ev_move rfl) rfl rfl rfl ?_
        refine qt (ev_indexAddr_ownh (h := 30) Try.underlying22 ty24 rfl rfl rfl (by assumption) (by omega) (by omega)) rfl rfl rfl ?_
        refine qt (ev_idxIn Try.underlying24 ty5 rfl rfl (fun w1 sw => sw.own_rd (h := 30) rfl) (by rw [flat_len (by assumption)]; omega) (by omega) (by omega)) rfl rfl rfl ?_
        refine qt (ld_own1 (h := 30) ty5 rfl rfl rfl (Mk.flat_get1 (by assumption) (by omega) (by omega))) rfl rfl rfl ?_
        refine qt (ev_move rfl) rfl rfl rfl ?_
        refine qt (ev_xor rfl rfl) rfl rfl rfl ?_
        refine qt (ev_indexAddr_ownh (h := 30) Try.underlying22 ty24 rfl rfl rfl (by assumption) (by omega) (by omega)) rfl rfl rfl ?_
        refine qt_end ?_
        refine st (ev_idxIn Try.underlying24 ty5 rfl rfl (fun w1 sw => sw.own_rd (h := 30) rfl) (by rw [flat_len (by assumption)]; omega) (by omega) (by omega)) rfl rfl rfl ?_
        refine st_store_own (vl := [.int .u8 _]) 30 ty5 rfl rfl rfl rfl rfl (ints_one .u8 [_]) (by rw [flat_len (by assumption)]; omega) (by decide) rfl ?_
        refine at_heq (i := 30) rfl (congrArg (Ent.own _ _ _) (Mk.flat_set1 _ (by assumption) (by omega) (by omega))) ?_
        obtain ⟨m, hm⟩ : ∃ m, m = cs.set n ((cs.getD n []).set 5 (ixor .u8 ((cs.getD n []).getD 5 0) y)) := ⟨_, rfl⟩
        refine at_heq (i := 30) (v' := .own (v32) 24 32 (flat (m))) rfl (by rw [hm]; rfl) ?_
        have hmu : H32 m := by rw [hm]; exact hu.set _ (by rw [List.length_set]; exact hu.get hn2)
        have hml : m.length = cs.length := by rw [hm, List.length_set]
        refine op_nil ?_
        refine ax_then ?_
        refine At.regs (L' := [(0, _), (6, _), (7, _), (8, _)]) (.cons rfl (.cons rfl (.cons rfl (.cons rfl (.nil _))))) ?_
        refine cd_seq ?_
        refine cd_region ?_
        refine st_buildSlice (h := 42) (cells := flat []) Try.underlying22 ty24 rfl (by decide) (by simp only [Instr.fill, flat]; exact congrArg some (Array.eq_empty_of_size_eq_zero (by simp))) (by rfl) rfl rfl (fun b42 => ?_)
        have hn42 := H32.nil
        have hu42 := hu
        refine st (ev_move rfl) rfl rfl rfl ?_
        refine st_appendh (h := 42) Try.underlying22 Try.underlying22 ty24 rfl rfl rfl rfl (fun w1 sw => sw.sl_rd (h := 0) rfl) (by assumption) (by assumption) (by first | omega | (simp only [List.length_append, List.length_cons, List.length_nil, List.length_set, List.length_replicate, List.length_take, List.length_drop, ints_length, wr_length, node_len] <;> omega)) (by decide) rfl rfl (fun v44 hu44 => ?_)
        refine at_heq (i := 42) (v' := .own (v44) 24 32 (flat (cs))) rfl (by rw [List.nil_append]) ?_
        have huy := hu
        refine st (ev_assign rfl) rfl rfl rfl ?_
        refine op_nil ?_
        refine ax_then ?_
        refine At.regs (L' := [(0, _), (6, _), (7, _), (8, _), (9, _)]) (.cons rfl (.cons rfl (.cons rfl (.cons rfl (.cons rfl (.nil _)))))) ?_
        refine cd_seq ?_
        refine cd_region ?_
        refine st (ev_move rfl) rfl rfl rfl ?_
        refine st (ev_add64 rfl rfl (by omega) (by omega)) rfl rfl rfl ?_
        refine st (ev_move rfl) rfl rfl rfl ?_
        refine st (ev_len_rdh (h := 0) Try.underlying22 rfl rfl (by assumption)) rfl rfl rfl ?_
        refine st (ev_rem64 rfl rfl (by omega) (by omega)) rfl rfl rfl ?_
        obtain ⟨o, ho⟩ : ∃ o : Nat, ((n : Int) + 1) % (cs.length : Int) = (o : Int) := ⟨_, (Int.toNat_of_nonneg (Int.emod_nonneg _ (by omega))).symm⟩
        have ho2 : o < cs.length := by have := Int.emod_lt_of_pos ((n : Int) + 1) (b := (cs.length : Int)) (by omega); omega
        refine at_eq (i := 49) (v' := .int .i64 (o : Int)) rfl (by rw [ho]) ?_
        have hgn : (cs.getD (n : Int).toNat []).length = 32 := hu.get hn2
        have hgo : (cs.getD (o : Int).toNat []).length = 32 := hu.get ho2
        refine st (ev_assign rfl) rfl rfl rfl ?_
        refine op_nil ?_
        refine ax_then ?_
        refine At.regs (L' := [(0, _), (6, _), (7, _), (8, _), (9, _), (10, _)]) (.cons rfl (.cons rfl (.cons rfl (.cons rfl (.cons rfl (.cons rfl (.nil _))))))) ?_
        refine cd_join (ι := List (List Int)) (fun k => H32 k ∧ k.length = cs.length) (fun k => [(0, p), (8, v32), (9, v44)]) (fun k => [(30, .own (v32) 24 32 (flat (m))), (42, .own (v44) 24 32 (flat (k)))]) (fun k => [(0, .sl p 32 (flat (cs)))]) ?_ (fun k hj => ?_)
        ·
          refine cd_mix hmix ?_
          refine mx (i := 0) rfl (by decide +kernel) (by decide +kernel) (by decide +kernel) rfl (fun w0 => ev_move rfl) rfl rfl (Sub.refl _) ?_
          refine mx (i := 1) rfl (by decide +kernel) (by decide +kernel) (by decide +kernel) rfl (fun w0 => ev_move rfl) rfl rfl (Sub.refl _) ?_
          refine mx (i := 2) rfl (by decide +kernel) (by decide +kernel) (by decide +kernel) rfl (fun w0 => ev_move rfl) rfl rfl (Sub.refl _) ?_
          refine mx (i := 3) rfl (by decide +kernel) (by decide +kernel) (by decide +kernel) rfl (fun w0 => ev_move rfl) rfl rfl (Sub.refl _) ?_
          refine mx (i := 4) rfl (by decide +kernel) (by decide +kernel) (by decide +kernel) rfl (fun w0 => ev_move rfl) rfl rfl (Sub.refl _) ?_
          refine mx (i := 5) rfl (by decide +kernel) (by decide +kernel) (by decide +kernel) rfl (fun w0 => ev_move rfl) rfl rfl (Sub.refl _) ?_
          refine mx (i := 8) rfl (by decide +kernel) (by decide +kernel) (by decide +kernel) rfl (fun w0 => ev_move rfl) rfl rfl (Sub.refl _) ?_
          refine mx (i := 9) rfl (by decide +kernel) (by decide +kernel) (by decide +kernel) rfl (fun w0 => ev_move rfl) rfl rfl (Sub.refl _) ?_
          refine mx_two (i := 6) (j := 10) (by decide +kernel) (Sub.refl _) ?_ ?_
          ·
            refine wo (i := 6) rfl ?_
            refine st (ev_indexAddr_ownh (h := 42) Try.underlying22 ty24 rfl rfl rfl (by assumption) (by omega) (by omega)) rfl rfl rfl ?_
            refine op_nil ?_
            refine ax_then ?_
            refine mx_two (i := 7) (j := 10) (by decide +kernel) (Sub.refl _) ?_ ?_
            ·
              refine wo (i := 7) rfl ?_
              refine st (ld_ownh (h := 42) ty24 rfl rfl rfl (by assumption) (by omega)) rfl rfl rfl ?_
              refine op_nil ?_
              refine ax_then ?_
              refine mx_one (i := 10) (by decide +kernel) (Sub.refl _) ?_
              refine wo (i := 10) rfl ?_
              refine st (ev_indexAddr_ownh (h := 42) Try.underlying22 ty24 rfl rfl rfl (by assumption) (by omega) (by omega)) rfl rfl rfl ?_
              refine op_nil ?_
              refine ax_then ?_
              refine mx_one (i := 11) (by decide +kernel) (Sub.refl _) ?_
              refine wo (i := 11) rfl ?_
              refine st (ld_ownh (h := 42) ty24 rfl rfl rfl (by assumption) (by omega)) rfl rfl rfl ?_
              refine op_nil ?_
              refine ax_then ?_
              refine mx_one (i := 12) (by decide +kernel) (Sub.refl _) ?_
              refine wo (i := 12) rfl ?_
              refine st (ev_indexAddr_ownh (h := 42) Try.underlying22 ty24 rfl rfl rfl (by assumption) (by omega) (by omega)) rfl rfl rfl ?_
              refine op_nil ?_
              refine ax_then ?_
              refine mx_one (i := 13) (by decide +kernel) (Sub.refl _) ?_
              refine wo (i := 13) rfl ?_
              refine st_store_ownh 42 ty24 rfl rfl rfl (by assumption) (by first | omega | (simp only [List.length_append, List.length_cons, List.length_nil, List.length_set, List.length_replicate, List.length_take, List.length_drop, ints_length, wr_length, node_len] <;> omega) | rfl) (by omega) rfl ?_
              have hus := hu.set (n : Int).toNat hgo
              have hsl : (cs.set (n : Int).toNat (cs.getD (o : Int).toNat [])).length = cs.length := List.length_set
              refine op_nil ?_
              refine ax_then ?_
              refine mx_one (i := 14) (by decide +kernel) (Sub.refl _) ?_
              refine wo (i := 14) rfl ?_
              refine st (ev_indexAddr_ownh (h := 42) Try.underlying22 ty24 rfl rfl rfl (by assumption) (by omega) (by omega)) rfl rfl rfl ?_
              refine op_nil ?_
              refine ax_then ?_
              refine mx_one (i := 15) (by decide +kernel) (Sub.refl _) ?_
              refine wo (i := 15) rfl ?_
              refine st_store_ownh 42 ty24 rfl rfl rfl (by assumption) (by first | omega | (simp only [List.length_append, List.length_cons, List.length_nil, List.length_set, List.length_replicate, List.length_take, List.length_drop, ints_length, wr_length, node_len] <;> omega) | rfl) (by omega) rfl ?_
              obtain ⟨k, hk⟩ : ∃ k, k = (cs.set (n : Int).toNat (cs.getD (o : Int).toNat [])).set (o : Int).toNat (cs.getD (n : Int).toNat []) := ⟨_, rfl⟩
              refine at_heq (i := 42) (v' := .own (v44) 24 32 (flat (k))) rfl (by rw [hk]) ?_
              have hku : H32 k := by rw [hk]; exact hus.set _ hgn
              have hkl : k.length = cs.length := by rw [hk, List.length_set, hsl]
              refine op_nil ?_
              refine ax_then ?_
              refine mx_done (by decide +kernel) (Sub.refl _) ?_
              exact at_met (k) (⟨hku, hkl⟩) (.cons rfl (.cons rfl (.cons rfl (.nil _)))) (.cons rfl (.cons rfl (.nil _))) (.cons rfl (.nil _))
            ·
              refine wo (i := 10) rfl ?_
              refine st (ev_indexAddr_ownh (h := 42) Try.underlying22 ty24 rfl rfl rfl (by assumption) (by omega) (by omega)) rfl rfl rfl ?_
              refine op_nil ?_
              refine ax_then ?_
              refine mx_two (i := 7) (j := 11) (by decide +kernel) (Sub.refl _) ?_ ?_
              ·
                refine wo (i := 7) rfl ?_
                refine st (ld_ownh (h := 42) ty24 rfl rfl rfl (by assumption) (by omega)) rfl rfl rfl ?_
                refine op_nil ?_
                refine ax_then ?_
                refine mx_one (i := 11) (by decide +kernel) (Sub.refl _) ?_
                refine wo (i := 11) rfl ?_
                refine st (ld_ownh (h := 42) ty24 rfl rfl rfl (by assumption) (by omega)) rfl rfl rfl ?_
                refine op_nil ?_
                refine ax_then ?_
                refine mx_one (i := 12) (by decide +kernel) (Sub.refl _) ?_
                refine wo (i := 12) rfl ?_
                refine st (ev_indexAddr_ownh (h := 42) Try.underlying22 ty24 rfl rfl rfl (by assumption) (by omega) (by omega)) rfl rfl rfl ?_
                refine op_nil ?_
                refine ax_then ?_
                refine mx_one (i := 13) (by decide +kernel) (Sub.refl _) ?_
                refine wo (i := 13) rfl ?_
                refine st_store_ownh 42 ty24 rfl rfl rfl (by assumption) (by first | omega | (simp only [List.length_append, List.length_cons, List.length_nil, List.length_set, List.length_replicate, List.length_take, List.length_drop, ints_length, wr_length, node_len] <;> omega) | rfl) (by omega) rfl ?_
                have hus := hu.set (n : Int).toNat hgo
                have hsl : (cs.set (n : Int).toNat (cs.getD (o : Int).toNat [])).length = cs.length := List.length_set
                refine op_nil ?_
                refine ax_then ?_
                refine mx_one (i := 14) (by decide +kernel) (Sub.refl _) ?_
                refine wo (i := 14) rfl ?_
                refine st (ev_indexAddr_ownh (h := 42) Try.underlying22 ty24 rfl rfl rfl (by assumption) (by omega) (by omega)) rfl rfl rfl ?_
                refine op_nil ?_
                refine ax_then ?_
                refine mx_one (i := 15) (by decide +kernel) (Sub.refl _) ?_
                refine wo (i := 15) rfl ?_
                refine st_store_ownh 42 ty24 rfl rfl rfl (by assumption) (by first | omega | (simp only [List.length_append, List.length_cons, List.length_nil, List.length_set, List.length_replicate, List.length_take, List.length_drop, ints_length, wr_length, node_len] <;> omega) | rfl) (by omega) rfl ?_
                obtain ⟨k, hk⟩ : ∃ k, k = (cs.set (n : Int).toNat (cs.getD (o : Int).toNat [])).set (o : Int).toNat (cs.getD (n : Int).toNat []) := ⟨_, rfl⟩
                refine at_heq (i := 42) (v' := .own (v44) 24 32 (flat (k))) rfl (by rw [hk]) ?_
                have hku : H32 k := by rw [hk]; exact hus.set _ hgn
                have hkl : k.length = cs.length := by rw [hk, List.length_set, hsl]
                refine op_nil ?_
                refine ax_then ?_
                refine mx_done (by decide +kernel) (Sub.refl _) ?_
                exact at_met (k) (⟨hku, hkl⟩) (.cons rfl (.cons rfl (.cons rfl (.nil _)))) (.cons rfl (.cons rfl (.nil _))) (.cons rfl (.nil _))
              ·
                refine wo (i := 11) rfl ?_
                refine st (ld_ownh (h := 42) ty24 rfl rfl rfl (by assumption) (by omega)) rfl rfl rfl ?_
                refine op_nil ?_
                refine ax_then ?_
                refine mx_one (i := 7) (by decide +kernel) (Sub.refl _) ?_
                refine wo (i := 7) rfl ?_
                refine st (ld_ownh (h := 42) ty24 rfl rfl rfl (by assumption) (by omega)) rfl rfl rfl ?_
                refine op_nil ?_
                refine ax_then ?_
                refine mx_one (i := 12) (by decide +kernel) (Sub.refl _) ?_
                refine wo (i := 12) rfl ?_
                refine st (ev_indexAddr_ownh (h := 42) Try.underlying22 ty24 rfl rfl rfl (by assumption) (by omega) (by omega)) rfl rfl rfl ?_
                refine op_nil ?_
                refine ax_then ?_
                refine mx_one (i := 13) (by decide +kernel) (Sub.refl _) ?_
                refine wo (i := 13) rfl ?_
                refine st_store_ownh 42 ty24 rfl rfl rfl (by assumption) (by first | omega | (simp only [List.length_append, List.length_cons, List.length_nil, List.length_set, List.length_replicate, List.length_take, List.length_drop, ints_length, wr_length, node_len] <;> omega) | rfl) (by omega) rfl ?_
                have hus := hu.set (n : Int).toNat hgo
                have hsl : (cs.set (n : Int).toNat (cs.getD (o : Int).toNat [])).length = cs.length := List.length_set
                refine op_nil ?_
                refine ax_then ?_
                refine mx_one (i := 14) (by decide +kernel) (Sub.refl _) ?_
                refine wo (i := 14) rfl ?_
                refine st (ev_indexAddr_ownh (h := 42) Try.underlying22 ty24 rfl rfl rfl (by assumption) (by omega) (by omega)) rfl rfl rfl ?_
                refine op_nil ?_
                refine ax_then ?_
                refine mx_one (i := 15) (by decide +kernel) (Sub.refl _) ?_
                refine wo (i := 15) rfl ?_
                refine st_store_ownh 42 ty24 rfl rfl rfl (by assumption) (by first | omega | (simp only [List.length_append, List.length_cons, List.length_nil, List.length_set, List.length_replicate, List.length_take, List.length_drop, ints_length, wr_length, node_len] <;> omega) | rfl) (by omega) rfl ?_
                obtain ⟨k, hk⟩ : ∃ k, k = (cs.set (n : Int).toNat (cs.getD (o : Int).toNat [])).set (o : Int).toNat (cs.getD (n : Int).toNat []) := ⟨_, rfl⟩
                refine at_heq (i := 42) (v' := .own (v44) 24 32 (flat (k))) rfl (by rw [hk]) ?_
                have hku : H32 k := by rw [hk]; exact hus.set _ hgn
                have hkl : k.length = cs.length := by rw [hk, List.length_set, hsl]
                refine op_nil ?_
                refine ax_then ?_
                refine mx_done (by decide +kernel) (Sub.refl _) ?_
                exact at_met (k) (⟨hku, hkl⟩) (.cons rfl (.cons rfl (.cons rfl (.nil _)))) (.cons rfl (.cons rfl (.nil _))) (.cons rfl (.nil _))
          ·
            refine wo (i := 10) rfl ?_
            refine st (ev_indexAddr_ownh (h := 42) Try.underlying22 ty24 rfl rfl rfl (by assumption) (by omega) (by omega)) rfl rfl rfl ?_
            refine op_nil ?_
            refine ax_then ?_
            refine mx_two (i := 6) (j := 11) (by decide +kernel) (Sub.refl _) ?_ ?_
            ·
              refine wo (i := 6) rfl ?_
              refine st (ev_indexAddr_ownh (h := 42) Try.underlying22 ty24 rfl rfl rfl (by assumption) (by omega) (by omega)) rfl rfl rfl ?_
              refine op_nil ?_
              refine ax_then ?_
              refine mx_two (i := 7) (j := 11) (by decide +kernel) (Sub.refl _) ?_ ?_
              ·
                refine wo (i := 7) rfl ?_
                refine st (ld_ownh (h := 42) ty24 rfl rfl rfl (by assumption) (by omega)) rfl rfl rfl ?_
                refine op_nil ?_
                refine ax_then ?_
                refine mx_one (i := 11) (by decide +kernel) (Sub.refl _) ?_
                refine wo (i := 11) rfl ?_
                refine st (ld_ownh (h := 42) ty24 rfl rfl rfl (by assumption) (by omega)) rfl rfl rfl ?_
                refine op_nil ?_
                refine ax_then ?_
                refine mx_one (i := 12) (by decide +kernel) (Sub.refl _) ?_
                refine wo (i := 12) rfl ?_
                refine st (ev_indexAddr_ownh (h := 42) Try.underlying22 ty24 rfl rfl rfl (by assumption) (by omega) (by omega)) rfl rfl rfl ?_
                refine op_nil ?_
                refine ax_then ?_
                refine mx_one (i := 13) (by decide +kernel) (Sub.refl _) ?_
                refine wo (i := 13) rfl ?_
                refine st_store_ownh 42 ty24 rfl rfl rfl (by assumption) (by first | omega | (simp only [List.length_append, List.length_cons, List.length_nil, List.length_set, List.length_replicate, List.length_take, List.length_drop, ints_length, wr_length, node_len] <;> omega) | rfl) (by omega) rfl ?_
                have hus := hu.set (n : Int).toNat hgo
                have hsl : (cs.set (n : Int).toNat (cs.getD (o : Int).toNat [])).length = cs.length := List.length_set
                refine op_nil ?_
                refine ax_then ?_
                refine mx_one (i := 14) (by decide +kernel) (Sub.refl _) ?_
                refine wo (i := 14) rfl ?_
                refine st (ev_indexAddr_ownh (h := 42) Try.underlying22 ty24 rfl rfl rfl (by assumption) (by omega) (by omega)) rfl rfl rfl ?_
                refine op_nil ?_
                refine ax_then ?_
                refine mx_one (i := 15) (by decide +kernel) (Sub.refl _) ?_
                refine wo (i := 15) rfl ?_
                refine st_store_ownh 42 ty24 rfl rfl rfl (by assumption) (by first | omega | (simp only [List.length_append, List.length_cons, List.length_nil, List.length_set, List.length_replicate, List.length_take, List.length_drop, ints_length, wr_length, node_len] <;> omega) | rfl) (by omega) rfl ?_
                obtain ⟨k, hk⟩ : ∃ k, k = (cs.set (n : Int).toNat (cs.getD (o : Int).toNat [])).set (o : Int).toNat (cs.getD (n : Int).toNat []) := ⟨_, rfl⟩
                refine at_heq (i := 42) (v' := .own (v44) 24 32 (flat (k))) rfl (by rw [hk]) ?_
                have hku : H32 k := by rw [hk]; exact hus.set _ hgn
                have hkl : k.length = cs.length := by rw [hk, List.length_set, hsl]
                refine op_nil ?_
                refine ax_then ?_
                refine mx_done (by decide +kernel) (Sub.refl _) ?_
                exact at_met (k) (⟨hku, hkl⟩) (.cons rfl (.cons rfl (.cons rfl (.nil _)))) (.cons rfl (.cons rfl (.nil _))) (.cons rfl (.nil _))
              ·
                refine wo (i := 11) rfl ?_
                refine st (ld_ownh (h := 42) ty24 rfl rfl rfl (by assumption) (by omega)) rfl rfl rfl ?_
                refine op_nil ?_
                refine ax_then ?_
                refine mx_one (i := 7) (by decide +kernel) (Sub.refl _) ?_
                refine wo (i := 7) rfl ?_
                refine st (ld_ownh (h := 42) ty24 rfl rfl rfl (by assumption) (by omega)) rfl rfl rfl ?_
                refine op_nil ?_
                refine ax_then ?_
                refine mx_one (i := 12) (by decide +kernel) (Sub.refl _) ?_
                refine wo (i := 12) rfl ?_
                refine st (ev_indexAddr_ownh (h := 42) Try.underlying22 ty24 rfl rfl rfl (by assumption) (by omega) (by omega)) rfl rfl rfl ?_
                refine op_nil ?_
                refine ax_then ?_
                refine mx_one (i := 13) (by decide +kernel) (Sub.refl _) ?_
                refine wo (i := 13) rfl ?_
                refine st_store_ownh 42 ty24 rfl rfl rfl (by assumption) (by first | omega | (simp only [List.length_append, List.length_cons, List.length_nil, List.length_set, List.length_replicate, List.length_take, List.length_drop, ints_length, wr_length, node_len] <;> omega) | rfl) (by omega) rfl ?_
                have hus := hu.set (n : Int).toNat hgo
                have hsl : (cs.set (n : Int).toNat (cs.getD (o : Int).toNat [])).length = cs.length := List.length_set
                refine op_nil ?_
                refine ax_then ?_
                refine mx_one (i := 14) (by decide +kernel) (Sub.refl _) ?_
                refine wo (i := 14) rfl ?_
                refine st (ev_indexAddr_ownh (h := 42) Try.underlying22 ty24 rfl rfl rfl (by assumption) (by omega) (by omega)) rfl rfl rfl ?_
                refine op_nil ?_
                refine ax_then ?_
                refine mx_one (i := 15) (by decide +kernel) (Sub.refl _) ?_
                refine wo (i := 15) rfl ?_
                refine st_store_ownh 42 ty24 rfl rfl rfl (by assumption) (by first | omega | (simp only [List.length_append, List.length_cons, List.length_nil, List.length_set, List.length_replicate, List.length_take, List.length_drop, ints_length, wr_length, node_len] <;> omega) | rfl) (by omega) rfl ?_
                obtain ⟨k, hk⟩ : ∃ k, k = (cs.set (n : Int).toNat (cs.getD (o : Int).toNat [])).set (o : Int).toNat (cs.getD (n : Int).toNat []) := ⟨_, rfl⟩
                refine at_heq (i := 42) (v' := .own (v44) 24 32 (flat (k))) rfl (by rw [hk]) ?_
                have hku : H32 k := by rw [hk]; exact hus.set _ hgn
                have hkl : k.length = cs.length := by rw [hk, List.length_set, hsl]
                refine op_nil ?_
                refine ax_then ?_
                refine mx_done (by decide +kernel) (Sub.refl _) ?_
                exact at_met (k) (⟨hku, hkl⟩) (.cons rfl (.cons rfl (.cons rfl (.nil _)))) (.cons rfl (.cons rfl (.nil _))) (.cons rfl (.nil _))
            ·
              refine wo (i := 11) rfl ?_
              refine st (ld_ownh (h := 42) ty24 rfl rfl rfl (by assumption) (by omega)) rfl rfl rfl ?_
              refine op_nil ?_
              refine ax_then ?_
              refine mx_one (i := 6) (by decide +kernel) (Sub.refl _) ?_
              refine wo (i := 6) rfl ?_
              refine st (ev_indexAddr_ownh (h := 42) Try.underlying22 ty24 rfl rfl rfl (by assumption) (by omega) (by omega)) rfl rfl rfl ?_
              refine op_nil ?_
              refine ax_then ?_
              refine mx_one (i := 7) (by decide +kernel) (Sub.refl _) ?_
              refine wo (i := 7) rfl ?_
              refine st (ld_ownh (h := 42) ty24 rfl rfl rfl (by assumption) (by omega)) rfl rfl rfl ?_
              refine op_nil ?_
              refine ax_then ?_
              refine mx_one (i := 12) (by decide +kernel) (Sub.refl _) ?_
              refine wo (i := 12) rfl ?_
              refine st (ev_indexAddr_ownh (h := 42) Try.underlying22 ty24 rfl rfl rfl (by assumption) (by omega) (by omega)) rfl rfl rfl ?_
              refine op_nil ?_
              refine ax_then ?_
              refine mx_one (i := 13) (by decide +kernel) (Sub.refl _) ?_
              refine wo (i := 13) rfl ?_
              refine st_store_ownh 42 ty24 rfl rfl rfl (by assumption) (by first | omega | (simp only [List.length_append, List.length_cons, List.length_nil, List.length_set, List.length_replicate, List.length_take, List.length_drop, ints_length, wr_length, node_len] <;> omega) | rfl) (by omega) rfl ?_
              have hus := hu.set (n : Int).toNat hgo
              have hsl : (cs.set (n : Int).toNat (cs.getD (o : Int).toNat [])).length = cs.length := List.length_set
              refine op_nil ?_
              refine ax_then ?_
              refine mx_one (i := 14) (by decide +kernel) (Sub.refl _) ?_
              refine wo (i := 14) rfl ?_
              refine st (ev_indexAddr_ownh (h := 42) Try.underlying22 ty24 rfl rfl rfl (by assumption) (by omega) (by omega)) rfl rfl rfl ?_
              refine op_nil ?_
              refine ax_then ?_
              refine mx_one (i := 15) (by decide +kernel) (Sub.refl _) ?_
              refine wo (i := 15) rfl ?_
              refine st_store_ownh 42 ty24 rfl rfl rfl (by assumption) (by first | omega | (simp only [List.length_append, List.length_cons, List.length_nil, List.length_set, List.length_replicate, List.length_take, List.length_drop, ints_length, wr_length, node_len] <;> omega) | rfl) (by omega) rfl ?_
              obtain ⟨k, hk⟩ : ∃ k, k = (cs.set (n : Int).toNat (cs.getD (o : Int).toNat [])).set (o : Int).toNat (cs.getD (n : Int).toNat []) := ⟨_, rfl⟩
              refine at_heq (i := 42) (v' := .own (v44) 24 32 (flat (k))) rfl (by rw [hk]) ?_
              have hku : H32 k := by rw [hk]; exact hus.set _ hgn
              have hkl : k.length = cs.length := by rw [hk, List.length_set, hsl]
              refine op_nil ?_
              refine ax_then ?_
              refine mx_done (by decide +kernel) (Sub.refl _) ?_
              exact at_met (k) (⟨hku, hkl⟩) (.cons rfl (.cons rfl (.cons rfl (.nil _)))) (.cons rfl (.cons rfl (.nil _))) (.cons rfl (.nil _))
        ·
          obtain ⟨hku, hkl⟩ := hj
          have hrl := root_len hu
          have hrm := root_len hmu
          have hrk := root_len hku
          refine cd_seq ?_
          refine cd_region ?_
          refine st (ev_move rfl) rfl rfl rfl ?_
          refine st_callv has14 rfl (fun w1 sw => root_any p cs w1 hu (by omega) (sw.sl_rd (h := 0) rfl)) rfl rfl ?_
          refine st_alloc (h := 11) ty24 rfl rfl rfl (fun b11 => ?_)
          refine st_store_all 11 ty24 rfl rfl rfl rfl (by first | omega | (simp only [List.length_append, List.length_cons, List.length_nil, List.length_set, List.length_replicate, List.length_take, List.length_drop, ints_length, wr_length, node_len] <;> omega) | rfl) (ints_one _ _) (by first | omega | (simp only [List.length_append, List.length_cons, List.length_nil, List.length_set, List.length_replicate, List.length_take, List.length_drop, ints_length, wr_length, node_len] <;> omega) | rfl) rfl ?_
          refine op_nil ?_
          refine ax_then ?_
          refine At.regs (L' := [(0, _), (8, _), (9, _), (11, _)]) (.cons rfl (.cons rfl (.cons rfl (.cons rfl (.nil _))))) ?_
          refine cd_seq ?_
          refine cd_region ?_
          refine st (ev_move rfl) rfl rfl rfl ?_
          refine st_callv has15 rfl (fun w1 sw => rroot_any v32 m w1 hmu (by omega) (sw.own_rd (h := 30) rfl)) rfl rfl ?_
          refine st (ev_move rfl) rfl rfl rfl ?_
          refine st_callv has15 rfl (fun w1 sw => rroot_any p cs w1 hu (by omega) (sw.sl_rd (h := 0) rfl)) rfl rfl ?_
          refine st (ev_eql_arr Try.underlying24 ty5 eqg24 rfl rfl (by first | omega | (simp only [List.length_append, List.length_cons, List.length_nil, List.length_set, List.length_replicate, List.length_take, List.length_drop, ints_length, wr_length, node_len] <;> omega) | rfl) (by first | omega | (simp only [List.length_append, List.length_cons, List.length_nil, List.length_set, List.length_replicate, List.length_take, List.length_drop, ints_length, wr_length, node_len] <;> omega) | rfl)) rfl rfl rfl ?_
          refine st (ev_move rfl) rfl rfl rfl ?_
          refine at_split_if (i := 71) rfl (fun hg71 => ?_) (fun hg71 => ?_)
          ·
            refine st_skip rfl rfl rfl ?_
            refine st_skip rfl rfl rfl ?_
            refine st_skip rfl rfl rfl ?_
            refine st_skip rfl rfl rfl ?_
            refine st_skip rfl rfl rfl ?_
            refine st (ev_pick_t rfl rfl) rfl rfl rfl ?_
            refine st (ev_assign rfl) rfl rfl rfl ?_
            refine op_nil ?_
            refine ax_then ?_
            refine At.regs (L' := [(8, _), (9, _), (11, _), (12, _)]) (.cons rfl (.cons rfl (.cons rfl (.cons rfl (.nil _))))) ?_
            refine cd_seq ?_
            refine cd_open hmix (by decide +kernel) ?_
            refine qt (ev_move rfl) rfl rfl rfl ?_
            refine qt (ev_move rfl) rfl rfl rfl ?_
            refine qt_skip rfl rfl rfl ?_
            refine qt_skip rfl rfl rfl ?_
            refine qt_skip rfl rfl rfl ?_
            refine qt_skip rfl rfl rfl ?_
            refine qt_skip rfl rfl rfl ?_
            refine qt_skip rfl rfl rfl ?_
            refine qt_skip rfl rfl rfl ?_
            refine qt_skip rfl rfl rfl ?_
            refine qt_skip rfl rfl rfl ?_
            refine qt_skip rfl rfl rfl ?_
            refine qt (ev_pick_t rfl rfl) rfl rfl rfl ?_
            refine qt (ev_move rfl) rfl rfl rfl ?_
            refine qt_callv has16 rfl (fun w1 sw => known4_any w1) rfl rfl ?_
            refine qt (ev_pick_t rfl rfl) rfl rfl rfl ?_
            refine qt (ev_assign rfl) rfl rfl rfl ?_
            refine qt_end ?_
            refine op_nil ?_
            refine ax_then ?_
            refine At.regs (L' := [(6, _)]) (.cons rfl (.nil _)) ?_
            refine cd_ret ?_
            refine rt_tmp (.inl rfl) Try.results3 rfl ?_
            exact fun w1 sw => ⟨rfl, sw.gives (.nil _)⟩
          ·
            refine st (ev_move rfl) rfl rfl rfl ?_
            refine st_callv has15 rfl (fun w1 sw => rroot_any v44 k w1 hku (by omega) (sw.own_rd (h := 42) rfl)) rfl rfl ?_
            refine st (ev_move rfl) rfl rfl rfl ?_
            refine st_callv has15 rfl (fun w1 sw => rroot_any p cs w1 hu (by omega) (sw.sl_rd (h := 0) rfl)) rfl rfl ?_
            refine st (ev_eql_arr Try.underlying24 ty5 eqg24 rfl rfl (by first | omega | (simp only [List.length_append, List.length_cons, List.length_nil, List.length_set, List.length_replicate, List.length_take, List.length_drop, ints_length, wr_length, node_len] <;> omega) | rfl) (by first | omega | (simp only [List.length_append, List.length_cons, List.length_nil, List.length_set, List.length_replicate, List.length_take, List.length_drop, ints_length, wr_length, node_len] <;> omega) | rfl)) rfl rfl rfl ?_
            refine st (ev_pick_f rfl rfl) rfl rfl rfl ?_
            refine st (ev_assign rfl) rfl rfl rfl ?_
            refine op_nil ?_
            refine ax_then ?_
            refine At.regs (L' := [(8, _), (9, _), (11, _), (12, _)]) (.cons rfl (.cons rfl (.cons rfl (.cons rfl (.nil _))))) ?_
            refine cd_seq ?_
            refine cd_open hmix (by decide +kernel) ?_
            refine qt (ev_move rfl) rfl rfl rfl ?_
            refine qt (ev_move rfl) rfl rfl rfl ?_
            refine qt_split_if (i := 79) rfl (fun hg79 => ?_) (fun hg79 => ?_)
            ·
              refine qt_skip rfl rfl rfl ?_
              refine qt_skip rfl rfl rfl ?_
              refine qt_skip rfl rfl rfl ?_
              refine qt_skip rfl rfl rfl ?_
              refine qt_skip rfl rfl rfl ?_
              refine qt_skip rfl rfl rfl ?_
              refine qt_skip rfl rfl rfl ?_
              refine qt_skip rfl rfl rfl ?_
              refine qt_skip rfl rfl rfl ?_
              refine qt_skip rfl rfl rfl ?_
              refine qt (ev_pick_t rfl rfl) rfl rfl rfl ?_
              refine qt (ev_move rfl) rfl rfl rfl ?_
              refine qt_callv has16 rfl (fun w1 sw => known4_any w1) rfl rfl ?_
              refine qt (ev_pick_t rfl rfl) rfl rfl rfl ?_
              refine qt (ev_assign rfl) rfl rfl rfl ?_
              refine qt_end ?_
              refine op_nil ?_
              refine ax_then ?_
              refine At.regs (L' := [(6, _)]) (.cons rfl (.nil _)) ?_
              refine cd_ret ?_
              refine rt_tmp (.inl rfl) Try.results3 rfl ?_
              exact fun w1 sw => ⟨rfl, sw.gives (.nil _)⟩
            ·
              refine qt (ev_move rfl) rfl rfl rfl ?_
              refine qt_callv has14 rfl (fun w1 sw => root_any v32 m w1 hmu (by omega) (sw.own_rd (h := 30) rfl)) rfl rfl ?_
              refine qt (ld_blk_all (h := 11) ty24 rfl rfl rfl (by first | omega | (simp only [List.length_append, List.length_cons, List.length_nil, List.length_set, List.length_replicate, List.length_take, List.length_drop, ints_length, wr_length, node_len] <;> omega) | rfl)) rfl rfl rfl ?_
              refine qt (ev_neq_arr Try.underlying24 ty5 eqg24 rfl rfl (by first | omega | (simp only [List.length_append, List.length_cons, List.length_nil, List.length_set, List.length_replicate, List.length_take, List.length_drop, ints_length, wr_length, node_len] <;> omega) | rfl) (by first | omega | (simp only [List.length_append, List.length_cons, List.length_nil, List.length_set, List.length_replicate, List.length_take, List.length_drop, ints_length, wr_length, node_len] <;> omega) | rfl)) rfl rfl rfl ?_
              refine qt (ev_move rfl) rfl rfl rfl ?_
              refine qt_eq (i := 84) (v' := .bool true) rfl (by rw [decide_eq_true hg71]) ?_
              refine qt (ev_move rfl) rfl rfl rfl ?_
              refine qt_callv has14 rfl (fun w1 sw => root_any v44 k w1 hku (by omega) (sw.own_rd (h := 42) rfl)) rfl rfl ?_
              refine qt (ld_blk_all (h := 11) ty24 rfl rfl rfl (by first | omega | (simp only [List.length_append, List.length_cons, List.length_nil, List.length_set, List.length_replicate, List.length_take, List.length_drop, ints_length, wr_length, node_len] <;> omega) | rfl)) rfl rfl rfl ?_
              refine qt (ev_neq_arr Try.underlying24 ty5 eqg24 rfl rfl (by first | omega | (simp only [List.length_append, List.length_cons, List.length_nil, List.length_set, List.length_replicate, List.length_take, List.length_drop, ints_length, wr_length, node_len] <;> omega) | rfl) (by first | omega | (simp only [List.length_append, List.length_cons, List.length_nil, List.length_set, List.length_replicate, List.length_take, List.length_drop, ints_length, wr_length, node_len] <;> omega) | rfl)) rfl rfl rfl ?_
              refine qt (ev_pick_t rfl rfl) rfl rfl rfl ?_
              refine qt (ev_pick_f rfl rfl) rfl rfl rfl ?_
              refine qt (ev_move rfl) rfl rfl rfl ?_
              refine qt_eq (i := 91) (v' := .bool true) rfl (by rw [decide_eq_true hg79]) ?_
              refine qt_callv has16 rfl (fun w1 sw => known4_any w1) rfl rfl ?_
              refine qt (ev_pick_t rfl rfl) rfl rfl rfl ?_
              refine qt (ev_assign rfl) rfl rfl rfl ?_
              refine qt_end ?_
              refine op_nil ?_
              refine ax_then ?_
              refine At.regs (L' := [(6, _)]) (.cons rfl (.nil _)) ?_
              refine cd_ret ?_
              refine rt_tmp (.inl rfl) Try.results3 rfl ?_
              exact fun w1 sw => ⟨rfl, sw.gives (.nil _)⟩

end Go.Proofs.Ytobbhelaajcpcaa
