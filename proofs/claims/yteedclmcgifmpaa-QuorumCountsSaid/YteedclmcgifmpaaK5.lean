/- Walks: chapter 5, the reference's keys. -/
import Derived.Test.YteedclmcgifmpaaK3
import Derived.Test.YteedclmcgifmpaaFwB
namespace Go.Proofs.Yteedclmcgifmpaa
open Go Go.RowKit Fw
open Sha
open Ots
open Mk
set_option linter.unusedVariables false
set_option linter.unusedSimpArgs false

theorem rkey_new {s : List Int} (hl : s.length = 32) (n : Int) : wr (wr (ints .u8 (List.replicate 32 0) ++ ([.slice none 0 0] ++ (ints .u8 (List.replicate 32 0) ++ [.int .i64 0]))) 0 (ints .u8 s)) 65 [.int .i64 n] = Ky.rcells s (.slice none 0 0) (List.replicate 32 0) n := by
  have h1 : wr (ints .u8 (List.replicate 32 0) ++ ([Value.slice none 0 0] ++ (ints .u8 (List.replicate 32 0) ++ [.int .i64 0]))) 0 (ints .u8 s) = Ky.rcells s (.slice none 0 0) (List.replicate 32 0) 0 := by
    rw [wr, List.take_zero, List.nil_append, ints_length, hl, Nat.zero_add, List.drop_left' (by simp [ints_length])]
    rfl
  rw [h1, wr_one (by rw [Ky.rcells_len hl (by simp)]; decide), Ky.rcells_set65 hl (by simp)]

set_option maxRecDepth 20000 in
set_option maxHeartbeats 4000000 in
theorem rnew_any (s : List Int) (u : Int) (w : World) (hl : s.length = 32) : Calls Try.prog 27 #[.agg (ints .u8 (s)).toArray, .int .i64 u] w (Post (ι := Nat × Value) w [] (fun _ => True) (fun x => .pointer (some ⟨x.1, 0, none⟩)) (fun x => [(0, .blk (x.1) (.cells (Ky.rcells s x.2 (Ky.keyPub s) (Ky.clamp u)).toArray 55)), (1, .own (x.2) 39 32 (flat (Ky.leaves s 16)))])) := by
  refine calls_at (vs := [.agg (ints .u8 (s)).toArray, .int .i64 u]) (X := []) (H := []) (F := []) 39 Try.func27 rfl rfl rfl (Sat.start0 w) ?_
  refine cd_seq ?_
  refine cd_region ?_
  refine st_box (h := 2) rfl rfl rfl rfl (fun b2 => ?_)
  refine st (ev_assign rfl) rfl rfl rfl ?_
  refine op_nil ?_
  refine ax_then ?_
  refine At.regs (L' := [(1, _), (2, _), (4, _)]) (.cons rfl (.cons rfl (.cons rfl (.nil _)))) ?_
  refine cd_seq ?_
  refine cd_region ?_
  refine st (ld_blk_all (h := 2) ty39 rfl rfl rfl (by first | omega | (simp only [List.length_append, List.length_cons, List.length_nil, List.length_set, List.length_replicate, List.length_take, List.length_drop, ints_length, wr_length, sha_len, node_len, recov_len, Ky.named_len, Ky.keyPub_len] <;> omega) | rfl)) rfl rfl rfl ?_
  refine st (ev_move rfl) rfl rfl rfl ?_
  refine st (ev_max2 rfl rfl) rfl rfl rfl ?_
  refine st (ev_min2 rfl rfl) rfl rfl rfl ?_
  refine at_eq (i := 10) (v' := .int .i64 (Ky.clamp u)) rfl rfl ?_
  refine st (ev_build_struct ty55 rfl pl55 rfl ((fill_put (i := 0) (off := 0) (n := 32) (vs := ints .u8 s) rfl rfl (by rw [ints_length, hl]) (Nat.le_of_ble_eq_true rfl)).trans ((fill_put (i := 3) (off := 65) (n := 1) (vs := [.int .i64 (Ky.clamp u)]) rfl rfl rfl (by rw [wr_length (by rw [ints_length, hl]; exact Nat.le_of_ble_eq_true rfl)]; exact Nat.le_of_ble_eq_true rfl)).trans fill_nil))) rfl rfl rfl ?_
  refine at_eq (i := 11) (v' := .agg (Ky.rcells s (.slice none 0 0) (List.replicate 32 0) (Ky.clamp u)).toArray) rfl (congrArg (fun x => Value.agg (List.toArray x)) (rkey_new hl _)) ?_
  refine st_box (h := 12) rfl rfl rfl rfl (fun b12 => ?_)
  refine st (ev_assign rfl) rfl rfl rfl ?_
  refine op_nil ?_
  refine ax_then ?_
  refine At.regs (L' := [(2, _), (4, _), (5, _)]) (.cons rfl (.cons rfl (.cons rfl (.nil _)))) ?_
  refine cd_seq ?_
  refine cd_seq ?_
  refine cd_region ?_
  refine st (ev_assign rfl) rfl rfl rfl ?_
  refine op_nil ?_
  refine ax_then ?_
  refine At.regs (L' := [(2, _), (4, _), (5, _), (6, _)]) (.cons rfl (.cons rfl (.cons rfl (.cons rfl (.nil _))))) ?_
  refine cd_block ?_
  refine at_freeze_blk (h := 2) (H' := [(12, _)]) 2 rfl (.cons rfl (.nil _)) rfl ?_
  refine at_own_nil 20 39 32 ?_
  refine at_heq (i := 20) (v' := .own (.slice none 0 0) 39 32 (flat (Ky.leaves s 0))) rfl rfl ?_
  refine cd_loop (ι := Nat × Value) (fun x => x.1 ≤ 16) (fun x => 16 - x.1)
      (fun x => [(2, .pointer (some ⟨b2, 0, none⟩)), (5, .pointer (some ⟨b12, 0, none⟩)), (6, .int .i64 (x.1 : Int))])
      (fun x => [(12, .blk (b12) (.cells (Ky.rcells s x.2 (List.replicate 32 0) (Ky.clamp u)).toArray 55)), (20, .own (x.2) 39 32 (flat (Ky.leaves s x.1)))])
      (fun x => [(2, .mem b2 0 (ints .u8 s))])
      (0, .slice none 0 0) (by omega) (.cons rfl (.cons rfl (.cons rfl (.nil _)))) (.cons rfl (.cons rfl (.nil _))) (.cons rfl (.nil _)) (fun x hi => ?_)
  have hlu := Ky.leaves_h32 s x.1
  have hln := Ky.leaves_len s x.1
  have hpl : (pub s x.1).length = 32 := sha_len _
  refine cd_seq ?_
  refine cd_seq ?_
  refine cd_region ?_
  refine st (ev_move rfl) rfl rfl rfl ?_
  refine st (ev_lss rfl rfl) rfl rfl rfl ?_
  refine op_nil ?_
  refine ax_then ?_
  refine At.regs (L' := [(2, _), (5, _), (6, _), (13, _), (14, _)]) (.cons rfl (.cons rfl (.cons rfl (.cons rfl (.cons rfl (.nil _)))))) ?_
  refine cd_if rfl (fun hc14 => ?_) (fun hc14 => ?_)
  ·
    refine cd_skip ?_
    refine ax_then ?_
    refine At.regs (L' := [(2, _), (5, _), (6, _), (13, _), (14, _)]) (.cons rfl (.cons rfl (.cons rfl (.cons rfl (.cons rfl (.nil _)))))) ?_
    refine cd_seq ?_
    refine cd_block ?_
    refine cd_mix hmix ?_
    refine mx (i := 0) rfl (by decide +kernel) (by decide +kernel) (by decide +kernel) rfl (fun w0 => ev_move rfl) rfl rfl (Sub.refl _) ?_
    refine mx (i := 1) rfl (by decide +kernel) (by decide +kernel) (by decide +kernel) rfl (fun w0 => ev_move rfl) rfl rfl (Sub.refl _) ?_
    refine mx (i := 2) rfl (by decide +kernel) (by decide +kernel) (by decide +kernel) rfl (fun w0 => ev_nilCheck rfl) rfl rfl (Sub.refl _) ?_
    refine mx (i := 3) rfl (by decide +kernel) (by decide +kernel) (by decide +kernel) rfl (fun w0 => ev_fieldAddr (b := _) Try.underlying55 (f := _) rfl ty26 (by decide) rfl) rfl rfl (Sub.refl _) ?_
    refine mx (i := 5) rfl (by decide +kernel) (by decide +kernel) (by decide +kernel) rfl (fun w0 => ld_mem_all (h := 2) ty39 rfl rfl rfl (by first | omega | (simp only [List.length_append, List.length_cons, List.length_nil, List.length_set, List.length_replicate, List.length_take, List.length_drop, ints_length, wr_length, sha_len, node_len, recov_len, Ky.named_len, Ky.keyPub_len] <;> omega) | rfl)) rfl rfl (Sub.refl _) ?_
    refine mx (i := 6) rfl (by decide +kernel) (by decide +kernel) (by decide +kernel) rfl (fun w0 => ev_move rfl) rfl rfl (Sub.refl _) ?_
    refine mx_two (i := 4) (j := 7) (by decide +kernel) (Sub.refl _) ?_ ?_
    ·
      refine wo (i := 4) rfl ?_
      refine st (ld_blk1 (h := 12) ty26 rfl rfl rfl (Ky.rcells_32 hl _ _)) rfl rfl rfl ?_
      refine op_nil ?_
      refine ax_then ?_
      refine mx_one (i := 7) (by decide +kernel) (Sub.refl _) ?_
      refine wo (i := 7) rfl ?_
      refine st_callv has47 rfl (fun w1 sw => rpublic_any s x.1 w1 hl) rfl rfl ?_
      refine op_nil ?_
      refine ax_then ?_
      refine mx_one (i := 8) (by decide +kernel) (Sub.refl _) ?_
      refine wo (i := 8) rfl ?_
      refine st_bsh1 (h := 25) Try.underlying26 ty39 rfl (by first | assumption | omega) rfl rfl (fun b25 hu25 => ?_)
      refine op_nil ?_
      refine ax_then ?_
      refine mx_one (i := 9) (by decide +kernel) (Sub.refl _) ?_
      refine wo (i := 9) rfl ?_
      refine st_appendh (h := 20) Try.underlying26 Try.underlying26 ty39 rfl rfl rfl rfl (fun w1 sw => sw.own_rd (h := 25) rfl) (by assumption) (by assumption) (by first | omega | (simp only [List.length_append, List.length_cons, List.length_nil, List.length_set, List.length_replicate, List.length_take, List.length_drop, ints_length, wr_length, sha_len, node_len, recov_len, Ky.named_len, Ky.keyPub_len] <;> omega)) (by decide) rfl rfl (fun v26 hu26 => ?_)
      refine at_own_shape (h := 20) rfl (fun hs26 => ?_)
      refine op_nil ?_
      refine ax_then ?_
      refine mx (i := 10) rfl (by decide +kernel) (by decide +kernel) (by decide +kernel) rfl (fun w0 => ev_nilCheck rfl) rfl rfl (Sub.refl _) ?_
      refine mx (i := 11) rfl (by decide +kernel) (by decide +kernel) (by decide +kernel) rfl (fun w0 => ev_fieldAddr (b := _) Try.underlying55 (f := _) rfl ty26 (by decide) rfl) rfl rfl (Sub.refl _) ?_
      refine mx_one (i := 12) (by decide +kernel) (Sub.refl _) ?_
      refine wo (i := 12) rfl ?_
      refine st_store1 12 ty26 rfl rfl rfl hs26.2 (by rw [Ky.rcells_len hl (by simp)]; decide) rfl ?_
      refine at_heq (i := 12) (v' := .blk (b12) (.cells (Ky.rcells s v26 (List.replicate 32 0) (Ky.clamp u)).toArray 55)) rfl (congrArg (fun l : List Value => Ent.blk b12 (.cells l.toArray 55)) (Ky.rcells_set32 hl _ _ _)) ?_
      refine op_nil ?_
      refine ax_then ?_
      refine mx_done (by decide +kernel) (Sub.refl _) ?_
      refine ax_block ?_
      refine ax_then ?_
      refine At.regs (L' := [(2, _), (5, _), (6, _), (13, _), (14, _), (17, _), (18, _), (19, _), (20, _), (21, _), (22, _), (23, _), (24, _), (25, _), (26, _), (27, _), (28, _)]) (.cons rfl (.cons rfl (.cons rfl (.cons rfl (.cons rfl (.cons rfl (.cons rfl (.cons rfl (.cons rfl (.cons rfl (.cons rfl (.cons rfl (.cons rfl (.cons rfl (.cons rfl (.cons rfl (.cons rfl (.nil _)))))))))))))))))) ?_
      refine cd_region ?_
      refine st (ev_move rfl) rfl rfl rfl ?_
      refine st (ev_add64 rfl rfl (by omega) (by omega)) rfl rfl rfl ?_
      refine st (ev_assign rfl) rfl rfl rfl ?_
      refine op_nil ?_
      refine ax_heq (i := 20) (v' := .own (v26) 39 32 (flat (Ky.leaves s (x.1 + 1)))) rfl (by rw [Ky.leaves_snoc]) ?_
      exact at_again ((x.1 + 1, v26)) (by show x.1 + 1 ≤ 16; omega) (by omega) (.cons rfl (.cons rfl (.cons rfl (.nil _)))) (.cons rfl (.cons rfl (.nil _))) (.cons rfl (.nil _))
    ·
      refine wo (i := 7) rfl ?_
      refine st_callv has47 rfl (fun w1 sw => rpublic_any s x.1 w1 hl) rfl rfl ?_
      refine op_nil ?_
      refine ax_then ?_
      refine mx_two (i := 4) (j := 8) (by decide +kernel) (Sub.refl _) ?_ ?_
      ·
        refine wo (i := 4) rfl ?_
        refine st (ld_blk1 (h := 12) ty26 rfl rfl rfl (Ky.rcells_32 hl _ _)) rfl rfl rfl ?_
        refine op_nil ?_
        refine ax_then ?_
        refine mx_one (i := 8) (by decide +kernel) (Sub.refl _) ?_
        refine wo (i := 8) rfl ?_
        refine st_bsh1 (h := 25) Try.underlying26 ty39 rfl (by first | assumption | omega) rfl rfl (fun b25 hu25 => ?_)
        refine op_nil ?_
        refine ax_then ?_
        refine mx_one (i := 9) (by decide +kernel) (Sub.refl _) ?_
        refine wo (i := 9) rfl ?_
        refine st_appendh (h := 20) Try.underlying26 Try.underlying26 ty39 rfl rfl rfl rfl (fun w1 sw => sw.own_rd (h := 25) rfl) (by assumption) (by assumption) (by first | omega | (simp only [List.length_append, List.length_cons, List.length_nil, List.length_set, List.length_replicate, List.length_take, List.length_drop, ints_length, wr_length, sha_len, node_len, recov_len, Ky.named_len, Ky.keyPub_len] <;> omega)) (by decide) rfl rfl (fun v26 hu26 => ?_)
        refine at_own_shape (h := 20) rfl (fun hs26 => ?_)
        refine op_nil ?_
        refine ax_then ?_
        refine mx (i := 10) rfl (by decide +kernel) (by decide +kernel) (by decide +kernel) rfl (fun w0 => ev_nilCheck rfl) rfl rfl (Sub.refl _) ?_
        refine mx (i := 11) rfl (by decide +kernel) (by decide +kernel) (by decide +kernel) rfl (fun w0 => ev_fieldAddr (b := _) Try.underlying55 (f := _) rfl ty26 (by decide) rfl) rfl rfl (Sub.refl _) ?_
        refine mx_one (i := 12) (by decide +kernel) (Sub.refl _) ?_
        refine wo (i := 12) rfl ?_
        refine st_store1 12 ty26 rfl rfl rfl hs26.2 (by rw [Ky.rcells_len hl (by simp)]; decide) rfl ?_
        refine at_heq (i := 12) (v' := .blk (b12) (.cells (Ky.rcells s v26 (List.replicate 32 0) (Ky.clamp u)).toArray 55)) rfl (congrArg (fun l : List Value => Ent.blk b12 (.cells l.toArray 55)) (Ky.rcells_set32 hl _ _ _)) ?_
        refine op_nil ?_
        refine ax_then ?_
        refine mx_done (by decide +kernel) (Sub.refl _) ?_
        refine ax_block ?_
        refine ax_then ?_
        refine At.regs (L' := [(2, _), (5, _), (6, _), (13, _), (14, _), (17, _), (18, _), (19, _), (20, _), (21, _), (22, _), (23, _), (24, _), (25, _), (26, _), (27, _), (28, _)]) (.cons rfl (.cons rfl (.cons rfl (.cons rfl (.cons rfl (.cons rfl (.cons rfl (.cons rfl (.cons rfl (.cons rfl (.cons rfl (.cons rfl (.cons rfl (.cons rfl (.cons rfl (.cons rfl (.cons rfl (.nil _)))))))))))))))))) ?_
        refine cd_region ?_
        refine st (ev_move rfl) rfl rfl rfl ?_
        refine st (ev_add64 rfl rfl (by omega) (by omega)) rfl rfl rfl ?_
        refine st (ev_assign rfl) rfl rfl rfl ?_
        refine op_nil ?_
        refine ax_heq (i := 20) (v' := .own (v26) 39 32 (flat (Ky.leaves s (x.1 + 1)))) rfl (by rw [Ky.leaves_snoc]) ?_
        exact at_again ((x.1 + 1, v26)) (by show x.1 + 1 ≤ 16; omega) (by omega) (.cons rfl (.cons rfl (.cons rfl (.nil _)))) (.cons rfl (.cons rfl (.nil _))) (.cons rfl (.nil _))
      ·
        refine wo (i := 8) rfl ?_
        refine st_bsh1 (h := 25) Try.underlying26 ty39 rfl (by first | assumption | omega) rfl rfl (fun b25 hu25 => ?_)
        refine op_nil ?_
        refine ax_then ?_
        refine mx_one (i := 4) (by decide +kernel) (Sub.refl _) ?_
        refine wo (i := 4) rfl ?_
        refine st (ld_blk1 (h := 12) ty26 rfl rfl rfl (Ky.rcells_32 hl _ _)) rfl rfl rfl ?_
        refine op_nil ?_
        refine ax_then ?_
        refine mx_one (i := 9) (by decide +kernel) (Sub.refl _) ?_
        refine wo (i := 9) rfl ?_
        refine st_appendh (h := 20) Try.underlying26 Try.underlying26 ty39 rfl rfl rfl rfl (fun w1 sw => sw.own_rd (h := 25) rfl) (by assumption) (by assumption) (by first | omega | (simp only [List.length_append, List.length_cons, List.length_nil, List.length_set, List.length_replicate, List.length_take, List.length_drop, ints_length, wr_length, sha_len, node_len, recov_len, Ky.named_len, Ky.keyPub_len] <;> omega)) (by decide) rfl rfl (fun v26 hu26 => ?_)
        refine at_own_shape (h := 20) rfl (fun hs26 => ?_)
        refine op_nil ?_
        refine ax_then ?_
        refine mx (i := 10) rfl (by decide +kernel) (by decide +kernel) (by decide +kernel) rfl (fun w0 => ev_nilCheck rfl) rfl rfl (Sub.refl _) ?_
        refine mx (i := 11) rfl (by decide +kernel) (by decide +kernel) (by decide +kernel) rfl (fun w0 => ev_fieldAddr (b := _) Try.underlying55 (f := _) rfl ty26 (by decide) rfl) rfl rfl (Sub.refl _) ?_
        refine mx_one (i := 12) (by decide +kernel) (Sub.refl _) ?_
        refine wo (i := 12) rfl ?_
        refine st_store1 12 ty26 rfl rfl rfl hs26.2 (by rw [Ky.rcells_len hl (by simp)]; decide) rfl ?_
        refine at_heq (i := 12) (v' := .blk (b12) (.cells (Ky.rcells s v26 (List.replicate 32 0) (Ky.clamp u)).toArray 55)) rfl (congrArg (fun l : List Value => Ent.blk b12 (.cells l.toArray 55)) (Ky.rcells_set32 hl _ _ _)) ?_
        refine op_nil ?_
        refine ax_then ?_
        refine mx_done (by decide +kernel) (Sub.refl _) ?_
        refine ax_block ?_
        refine ax_then ?_
        refine At.regs (L' := [(2, _), (5, _), (6, _), (13, _), (14, _), (17, _), (18, _), (19, _), (20, _), (21, _), (22, _), (23, _), (24, _), (25, _), (26, _), (27, _), (28, _)]) (.cons rfl (.cons rfl (.cons rfl (.cons rfl (.cons rfl (.cons rfl (.cons rfl (.cons rfl (.cons rfl (.cons rfl (.cons rfl (.cons rfl (.cons rfl (.cons rfl (.cons rfl (.cons rfl (.cons rfl (.nil _)))))))))))))))))) ?_
        refine cd_region ?_
        refine st (ev_move rfl) rfl rfl rfl ?_
        refine st (ev_add64 rfl rfl (by omega) (by omega)) rfl rfl rfl ?_
        refine st (ev_assign rfl) rfl rfl rfl ?_
        refine op_nil ?_
        refine ax_heq (i := 20) (v' := .own (v26) 39 32 (flat (Ky.leaves s (x.1 + 1)))) rfl (by rw [Ky.leaves_snoc]) ?_
        exact at_again ((x.1 + 1, v26)) (by show x.1 + 1 ≤ 16; omega) (by omega) (.cons rfl (.cons rfl (.cons rfl (.nil _)))) (.cons rfl (.cons rfl (.nil _))) (.cons rfl (.nil _))
  ·
    obtain ⟨j, v⟩ := x
    dsimp only at hi hc14 ⊢
    obtain rfl : j = 16 := by omega
    have hlu := Ky.leaves_h32 s 16
    have hll := Ky.leaves_len s 16
    refine cd_exit ?_
    refine ax_then_exit ?_
    refine ax_then_exit ?_
    refine ax_block_hit ?_
    refine ax_then ?_
    refine At.regs (L' := [(5, _)]) (.cons rfl (.nil _)) ?_
    refine cd_seq ?_
    refine cd_region ?_
    refine st (ev_move rfl) rfl rfl rfl ?_
    refine st (ev_move rfl) rfl rfl rfl ?_
    refine st (ev_nilCheck rfl) rfl rfl rfl ?_
    refine st (ev_fieldAddr (b := _) Try.underlying55 (f := _) rfl ty26 (by decide) rfl) rfl rfl rfl ?_
    refine st (ld_blk1 (h := 12) ty26 rfl rfl rfl (Ky.rcells_32 hl _ _)) rfl rfl rfl ?_
    refine st_callv has49 rfl (fun w1 sw => rroot_any v (Ky.leaves s 16) w1 hlu (by rw [hll]; decide) (sw.own_rd (h := 20) rfl)) rfl rfl ?_
    refine st_callv has48 rfl (fun w1 sw => rnamed_any (root (Ky.leaves s 16)) w1 (root_len hlu)) rfl rfl ?_
    refine at_eq (i := 35) (v' := .agg (ints .u8 (Ky.keyPub s)).toArray) rfl rfl ?_
    refine st (ev_nilCheck rfl) rfl rfl rfl ?_
    refine st (ev_fieldAddr (b := _) Try.underlying55 (f := _) rfl ty39 (by decide) rfl) rfl rfl rfl ?_
    refine st_store 12 ty39 rfl rfl rfl rfl (by rw [ints_length, Ky.keyPub_len]) (ints_one _ _) (by rw [Ky.rcells_len hl (by simp)]; decide) rfl ?_
    refine at_heq (i := 12) (v' := .blk (b12) (.cells (Ky.rcells s v (Ky.keyPub s) (Ky.clamp u)).toArray 55)) rfl (congrArg (fun l : List Value => Ent.blk b12 (.cells l.toArray 55)) (Ky.rcells_wr hl (by simp) (Ky.keyPub_len s) _ _)) ?_
    refine op_nil ?_
    refine ax_then ?_
    refine At.regs (L' := [(5, _)]) (.cons rfl (.nil _)) ?_
    refine cd_seq ?_
    refine cd_region ?_
    refine st (ev_move rfl) rfl rfl rfl ?_
    refine st (ev_assign rfl) rfl rfl rfl ?_
    refine op_nil ?_
    refine ax_then ?_
    refine At.regs (L' := [(4, _)]) (.cons rfl (.nil _)) ?_
    refine cd_ret ?_
    refine rt_tmp (.inl rfl) Try.results27 rfl ?_
    exact fun w1 sw => ⟨(b12, v), trivial, rfl, (sw.gives (N := [(12, _), (20, _)]) (.cons rfl (.cons rfl (.nil _)))).rn2 (by decide) 0 1⟩

set_option maxRecDepth 20000 in
set_option maxHeartbeats 1000000 in
theorem rsignk_used (b : Nat) (v : Value) (s : List Int) (n : Nat) (q : Value) (w : World) (hn : 16 ≤ n) (hl : s.length = 32) (h : Lies w b 0 (Ky.rcells s v (Ky.keyPub s) ((n : Int)))) : Calls Try.prog 30 #[.pointer (some ⟨b, 0, none⟩), q] w (PostV w (.tuple #[.agg (List.toArray [.int .i64 0, .slice none 0 0, .slice none 0 0]), .int .i64 3])) := by
  refine calls_at (vs := [.pointer (some ⟨b, 0, none⟩), q]) (X := []) (H := []) (F := [(21, .mem b 0 (Ky.rcells s v (Ky.keyPub s) ((n : Int))))]) 45 Try.func30 rfl rfl rfl ((Sat.start0 w).read 21 h off_nil) ?_
  refine cd_seq ?_
  refine cd_region ?_
  refine st_alloc (h := 4) ty42 rfl rfl rfl (fun b4 => ?_)
  refine st (ev_assign rfl) rfl rfl rfl ?_
  refine op_nil ?_
  refine ax_then ?_
  refine At.regs (L' := [(0, _), (1, _), (4, _), (5, _)]) (.cons rfl (.cons rfl (.cons rfl (.cons rfl (.nil _))))) ?_
  refine cd_seq ?_
  refine cd_seq ?_
  refine cd_region ?_
  refine st (ev_move rfl) rfl rfl rfl ?_
  refine st (ev_nilCheck rfl) rfl rfl rfl ?_
  refine st (ev_fieldAddr (b := _) Try.underlying55 (f := _) rfl ty3 (by decide) rfl) rfl rfl rfl ?_
  refine st (ld_mem1 (h := 21) ty3 rfl rfl rfl (Nat.zero_add _).symm (Ky.rcells_65 hl (Ky.keyPub_len s) _ _)) rfl rfl rfl ?_
  refine st (ev_geq rfl rfl) rfl rfl rfl ?_
  refine op_nil ?_
  refine ax_then ?_
  refine At.regs (L' := [(0, _), (1, _), (4, _), (5, _), (11, _)]) (.cons rfl (.cons rfl (.cons rfl (.cons rfl (.cons rfl (.nil _)))))) ?_
  refine cd_if_t rfl (by omega) ?_
  refine cd_seq ?_
  refine cd_region ?_
  refine st (ev_build_struct ty42 rfl pl42 rfl rfl) rfl rfl rfl ?_
  refine st_store_all 4 ty42 rfl rfl rfl rfl (by first | omega | (simp only [List.length_append, List.length_cons, List.length_nil, List.length_set, List.length_replicate, List.length_take, List.length_drop, ints_length, wr_length, sha_len, node_len, recov_len, Ky.named_len, Ky.keyPub_len] <;> omega) | rfl) (by first | (intro u hu; simp at hu; rcases hu with rfl | rfl <;> rfl) | (simp [Value.oneCell'])) (by first | omega | (simp only [List.length_append, List.length_cons, List.length_nil, List.length_set, List.length_replicate, List.length_take, List.length_drop, ints_length, wr_length, sha_len, node_len, recov_len, Ky.named_len, Ky.keyPub_len] <;> omega) | rfl) rfl ?_
  refine st (ev_assign rfl) rfl rfl rfl ?_
  refine op_nil ?_
  refine ax_then ?_
  refine At.regs (L' := [(0, _), (1, _), (4, _), (5, _)]) (.cons rfl (.cons rfl (.cons rfl (.cons rfl (.nil _))))) ?_
  refine cd_ret ?_
  refine ax_then_ret ?_
  refine rt_cell_tmp (h0 := 4) (.inl rfl) Try.results30 ty42 rfl rfl rfl (by first | omega | (simp only [List.length_append, List.length_cons, List.length_nil, List.length_set, List.length_replicate, List.length_take, List.length_drop, ints_length, wr_length, sha_len, node_len, recov_len, Ky.named_len, Ky.keyPub_len] <;> omega) | rfl) rfl ?_
  exact fun w1 sw => ⟨rfl, sw.gives (.nil _)⟩

set_option maxRecDepth 20000 in
set_option maxHeartbeats 4000000 in
theorem rsignk_any (b : Nat) (v q : Value) (s m : List Int) (n : Nat) (w : World) (hl : s.length = 32) (hn : n < 16) (hm : m.length ≤ 1000000000) (hb : w.heap[b]? = some (.cells (Ky.rcells s v (Ky.keyPub s) ((n : Int))).toArray 55)) (h : Rd w v 32 (flat (Ky.leaves s 16))) (hbv : FE.off b (.sl (v) 32 (flat (Ky.leaves s 16)))) (h' : Rd w q 1 (ints .u8 m)) (hbq : FE.off b (.sl (q) 1 (ints .u8 (m)))) : Calls Try.prog 30 #[.pointer (some ⟨b, 0, none⟩), q] w (Post (ι := Value × Value) w [b] (fun _ => True) (fun x => .tuple #[.agg (List.toArray [.int .i64 (n : Int), x.1, x.2]), .int .i64 0]) (fun x => [(0, .blk (b) (.cells (Ky.rcells s v (Ky.keyPub s) (((n + 1 : Nat) : Int))).toArray 55)), (1, .own (x.1) 39 32 (flat (sign s n m 36))), (2, .own (x.2) 39 32 (flat (path (Ky.leaves s 16) n)))])) := by
  have hlu := Ky.leaves_h32 s 16
  have hll := Ky.leaves_len s 16
  refine calls_at (vs := [.pointer (some ⟨b, 0, none⟩), q]) (X := [b]) (H := [(0, .blk (b) (.cells (Ky.rcells s v (Ky.keyPub s) ((n : Int))).toArray 55))]) (F := [(2, .sl (q) 1 (ints .u8 (m))), (1, .sl (v) 32 (flat (Ky.leaves s 16)))]) 45 Try.func30 rfl rfl rfl (((Sat.blkX 0 hb).readb (f := .sl (v) 32 (flat (Ky.leaves s 16))) 1 h hbv).readb (f := .sl (q) 1 (ints .u8 (m))) 2 h' hbq) ?_
  refine cd_seq ?_
  refine cd_region ?_
  refine st_alloc (h := 4) ty42 rfl rfl rfl (fun b4 => ?_)
  refine st (ev_assign rfl) rfl rfl rfl ?_
  refine op_nil ?_
  refine ax_then ?_
  refine At.regs (L' := [(0, _), (1, _), (4, _), (5, _)]) (.cons rfl (.cons rfl (.cons rfl (.cons rfl (.nil _))))) ?_
  refine cd_seq ?_
  refine cd_seq ?_
  refine cd_region ?_
  refine st (ev_move rfl) rfl rfl rfl ?_
  refine st (ev_nilCheck rfl) rfl rfl rfl ?_
  refine st (ev_fieldAddr (b := _) Try.underlying55 (f := _) rfl ty3 (by decide) rfl) rfl rfl rfl ?_
  refine st (ld_blk1 (h := 0) ty3 rfl rfl rfl (Ky.rcells_65 hl (Ky.keyPub_len s) _ _)) rfl rfl rfl ?_
  refine st (ev_geq rfl rfl) rfl rfl rfl ?_
  refine op_nil ?_
  refine ax_then ?_
  refine At.regs (L' := [(0, _), (1, _), (4, _), (5, _), (11, _)]) (.cons rfl (.cons rfl (.cons rfl (.cons rfl (.cons rfl (.nil _)))))) ?_
  refine cd_if_f rfl (by omega) ?_
  refine cd_skip ?_
  refine ax_then ?_
  refine At.regs (L' := [(0, _), (1, _), (4, _), (5, _)]) (.cons rfl (.cons rfl (.cons rfl (.cons rfl (.nil _))))) ?_
  refine cd_join (ι := Nat × Value × Value) (fun x => ((x.2.1.cells = #[x.2.1] ∧ x.2.1.oneCell' = true) ∧ (x.2.2.cells = #[x.2.2] ∧ x.2.2.oneCell' = true))) (fun x => [(0, .pointer (some ⟨b, 0, none⟩)), (4, .pointer (some ⟨b4, 0, none⟩)), (6, .pointer (some ⟨x.1, 0, none⟩))]) (fun x => [(0, .blk (b) (.cells (Ky.rcells s v (Ky.keyPub s) ((n : Int))).toArray 55)), (4, .blk (b4) (.cells ([.int .i64 0, .slice none 0 0, .slice none 0 0]).toArray 42)), (6, .blk (x.1) (.cells ([.int .i64 (n : Int), x.2.1, x.2.2]).toArray 42)), (26, .own (x.2.1) 39 32 (flat (sign s n m 36))), (35, .own (x.2.2) 39 32 (flat (path (Ky.leaves s 16) n)))]) (fun x => [(1, .sl (v) 32 (flat (Ky.leaves s 16))), (2, .sl (q) 1 (ints .u8 (m)))]) ?_ (fun x hj => ?_)
  ·
    refine cd_mixp [(300, .mem b 0 (Ky.rcells s v (Ky.keyPub s) ((n : Int)))), (2, .sl (q) 1 (ints .u8 (m))), (1, .sl (v) 32 (flat (Ky.leaves s 16)))] hmix ?_
    refine mxp (i := 0) rfl (by decide +kernel) (by decide +kernel) (by decide +kernel) rfl (fun w0 => ev_move rfl) rfl rfl (fun w sw => CF.cons (lies_blk (sw.blk_eq (h := 0) rfl)) (sw.cf (.refl _))) ?_
    refine mxp (i := 1) rfl (by decide +kernel) (by decide +kernel) (by decide +kernel) rfl (fun w0 => ev_nilCheck rfl) rfl rfl (fun w sw => CF.cons (lies_blk (sw.blk_eq (h := 0) rfl)) (sw.cf (.refl _))) ?_
    refine mxp (i := 2) rfl (by decide +kernel) (by decide +kernel) (by decide +kernel) rfl (fun w0 => ev_fieldAddr (b := _) Try.underlying55 (f := _) rfl ty3 (by decide) rfl) rfl rfl (fun w sw => CF.cons (lies_blk (sw.blk_eq (h := 0) rfl)) (sw.cf (.refl _))) ?_
    refine mxp (i := 3) rfl (by decide +kernel) (by decide +kernel) (by decide +kernel) rfl (fun w0 => ld_mem1 (h := 300) ty3 rfl rfl rfl (Nat.zero_add _).symm (Ky.rcells_65 hl (Ky.keyPub_len s) _ _)) rfl rfl (fun w sw => CF.cons (lies_blk (sw.blk_eq (h := 0) rfl)) (sw.cf (.refl _))) ?_
    refine mxp (i := 4) rfl (by decide +kernel) (by decide +kernel) (by decide +kernel) rfl (fun w0 => ev_move rfl) rfl rfl (fun w sw => CF.cons (lies_blk (sw.blk_eq (h := 0) rfl)) (sw.cf (.refl _))) ?_
    refine mxp (i := 5) rfl (by decide +kernel) (by decide +kernel) (by decide +kernel) rfl (fun w0 => ev_nilCheck rfl) rfl rfl (fun w sw => CF.cons (lies_blk (sw.blk_eq (h := 0) rfl)) (sw.cf (.refl _))) ?_
    refine mxp (i := 6) rfl (by decide +kernel) (by decide +kernel) (by decide +kernel) rfl (fun w0 => ev_fieldAddr (b := _) Try.underlying55 (f := _) rfl ty39 (by decide) rfl) rfl rfl (fun w sw => CF.cons (lies_blk (sw.blk_eq (h := 0) rfl)) (sw.cf (.refl _))) ?_
    refine mxp (i := 7) rfl (by decide +kernel) (by decide +kernel) (by decide +kernel) rfl (fun w0 => ld_mem (h := 300) (k := 0) ty39 rfl rfl rfl rfl (by rw [Ky.rcells_len hl (Ky.keyPub_len s)]; decide)) rfl rfl (fun w sw => CF.cons (lies_blk (sw.blk_eq (h := 0) rfl)) (sw.cf (.refl _))) ?_
    refine at_eq (i := 20) (v' := .agg (ints .u8 (s)).toArray) rfl (congrArg (fun x => Value.agg (List.toArray x)) (Ky.rcells_seed hl _ _)) ?_
    refine mxp (i := 8) rfl (by decide +kernel) (by decide +kernel) (by decide +kernel) rfl (fun w0 => ev_move rfl) rfl rfl (fun w sw => CF.cons (lies_blk (sw.blk_eq (h := 0) rfl)) (sw.cf (.refl _))) ?_
    refine mxp (i := 9) rfl (by decide +kernel) (by decide +kernel) (by decide +kernel) rfl (fun w0 => ev_nilCheck rfl) rfl rfl (fun w sw => CF.cons (lies_blk (sw.blk_eq (h := 0) rfl)) (sw.cf (.refl _))) ?_
    refine mxp (i := 10) rfl (by decide +kernel) (by decide +kernel) (by decide +kernel) rfl (fun w0 => ev_fieldAddr (b := _) Try.underlying55 (f := _) rfl ty3 (by decide) rfl) rfl rfl (fun w sw => CF.cons (lies_blk (sw.blk_eq (h := 0) rfl)) (sw.cf (.refl _))) ?_
    refine mxp (i := 11) rfl (by decide +kernel) (by decide +kernel) (by decide +kernel) rfl (fun w0 => ld_mem1 (h := 300) ty3 rfl rfl rfl (Nat.zero_add _).symm (Ky.rcells_65 hl (Ky.keyPub_len s) _ _)) rfl rfl (fun w sw => CF.cons (lies_blk (sw.blk_eq (h := 0) rfl)) (sw.cf (.refl _))) ?_
    refine mxp (i := 12) rfl (by decide +kernel) (by decide +kernel) (by decide +kernel) rfl (fun w0 => ev_move rfl) rfl rfl (fun w sw => CF.cons (lies_blk (sw.blk_eq (h := 0) rfl)) (sw.cf (.refl _))) ?_
    refine mxp (i := 14) rfl (by decide +kernel) (by decide +kernel) (by decide +kernel) rfl (fun w0 => ev_move rfl) rfl rfl (fun w sw => CF.cons (lies_blk (sw.blk_eq (h := 0) rfl)) (sw.cf (.refl _))) ?_
    refine mxp (i := 15) rfl (by decide +kernel) (by decide +kernel) (by decide +kernel) rfl (fun w0 => ev_nilCheck rfl) rfl rfl (fun w sw => CF.cons (lies_blk (sw.blk_eq (h := 0) rfl)) (sw.cf (.refl _))) ?_
    refine mxp (i := 16) rfl (by decide +kernel) (by decide +kernel) (by decide +kernel) rfl (fun w0 => ev_fieldAddr (b := _) Try.underlying55 (f := _) rfl ty26 (by decide) rfl) rfl rfl (fun w sw => CF.cons (lies_blk (sw.blk_eq (h := 0) rfl)) (sw.cf (.refl _))) ?_
    refine mxp (i := 17) rfl (by decide +kernel) (by decide +kernel) (by decide +kernel) rfl (fun w0 => ld_mem1 (h := 300) ty26 rfl rfl rfl (Nat.zero_add _).symm (Ky.rcells_32 hl _ _)) rfl rfl (fun w sw => CF.cons (lies_blk (sw.blk_eq (h := 0) rfl)) (sw.cf (.refl _))) ?_
    refine mxp (i := 18) rfl (by decide +kernel) (by decide +kernel) (by decide +kernel) rfl (fun w0 => ev_move rfl) rfl rfl (fun w sw => CF.cons (lies_blk (sw.blk_eq (h := 0) rfl)) (sw.cf (.refl _))) ?_
    refine mxp (i := 19) rfl (by decide +kernel) (by decide +kernel) (by decide +kernel) rfl (fun w0 => ev_nilCheck rfl) rfl rfl (fun w sw => CF.cons (lies_blk (sw.blk_eq (h := 0) rfl)) (sw.cf (.refl _))) ?_
    refine mxp (i := 20) rfl (by decide +kernel) (by decide +kernel) (by decide +kernel) rfl (fun w0 => ev_fieldAddr (b := _) Try.underlying55 (f := _) rfl ty3 (by decide) rfl) rfl rfl (fun w sw => CF.cons (lies_blk (sw.blk_eq (h := 0) rfl)) (sw.cf (.refl _))) ?_
    refine mxp (i := 21) rfl (by decide +kernel) (by decide +kernel) (by decide +kernel) rfl (fun w0 => ld_mem1 (h := 300) ty3 rfl rfl rfl (Nat.zero_add _).symm (Ky.rcells_65 hl (Ky.keyPub_len s) _ _)) rfl rfl (fun w sw => CF.cons (lies_blk (sw.blk_eq (h := 0) rfl)) (sw.cf (.refl _))) ?_
    refine mxp_two (i := 13) (j := 24) (by decide +kernel) (fun w sw => CF.cons (lies_blk (sw.blk_eq (h := 0) rfl)) (sw.cf (.refl _))) ?_ ?_
    ·
      refine wo (i := 13) rfl ?_
      refine st_call has54 rfl (fun w1 sw => rn 26 (rsign_any s n q m w1 (by first | rfl | assumption) (by first | decide | omega) (sw.sl_rd (h := 2) rfl))) nil_all rfl rfl (fun v26 _ => ?_)
      have hsu26 := sign_h32 s n m 36
      have hsn26 := sign_len s n m 36
      refine at_own_shape (h := 26) rfl (fun hs26 => ?_)
      refine op_nil ?_
      refine ax_then ?_
      refine mxp_two (i := 22) (j := 24) (by decide +kernel) (fun w sw => CF.cons (lies_blk (sw.blk_eq (h := 0) rfl)) (sw.cf (.refl _))) ?_ ?_
      ·
        refine wo (i := 22) rfl ?_
        refine st_call has55 rfl (fun w1 sw => rn 35 (rpath_any v (Ky.leaves s 16) (n : Int) w1 hlu (by rw [hll]; decide) (by omega) (sw.sl_rd (h := 1) rfl))) nil_all rfl rfl (fun v35 _ => ?_)
        refine at_own_shape (h := 35) rfl (fun hs35 => ?_)
        refine op_nil ?_
        refine ax_then ?_
        refine mxp (i := 23) rfl (by decide +kernel) (by decide +kernel) (by decide +kernel) rfl (fun w0 => ev_build_struct ty42 rfl pl42 rfl ((fill_put (i := 0) (off := 0) (n := 1) (vs := [.int .i64 (n : Int)]) rfl rfl rfl (Nat.le_of_ble_eq_true rfl)).trans ((fill_put (i := 1) (off := 1) (n := 1) (vs := [v26]) rfl hs26.1 rfl (Nat.le_of_ble_eq_true rfl)).trans ((fill_put (i := 2) (off := 2) (n := 1) (vs := [v35]) rfl hs35.1 rfl (Nat.le_of_ble_eq_true rfl)).trans fill_nil)))) rfl rfl (fun w sw => CF.cons (lies_blk (sw.blk_eq (h := 0) rfl)) (sw.cf (.refl _))) ?_
        refine at_eq (i := 36) (v' := .agg (List.toArray [.int .i64 (n : Int), v26, v35])) rfl rfl ?_
        refine mxp_one (i := 24) (by decide +kernel) (fun w sw => CF.cons (lies_blk (sw.blk_eq (h := 0) rfl)) (sw.cf (.refl _))) ?_
        refine wo (i := 24) rfl ?_
        refine st_alloc (h := 6) ty42 rfl rfl rfl (fun b6 => ?_)
        refine op_nil ?_
        refine ax_then ?_
        refine mxp_one (i := 25) (by decide +kernel) (fun w sw => CF.cons (lies_blk (sw.blk_eq (h := 0) rfl)) (sw.cf (.refl _))) ?_
        refine wo (i := 25) rfl ?_
        refine st_store_all 6 ty42 rfl rfl rfl rfl rfl (by intro u hu; simp at hu; rcases hu with rfl | rfl | rfl; rfl; exact hs26.2; exact hs35.2) rfl rfl ?_
        refine op_nil ?_
        refine ax_then ?_
        refine mxp_done (by decide +kernel) (fun w sw => CF.cons (lies_blk (sw.blk_eq (h := 0) rfl)) (sw.cf (.refl _))) ?_
        exact at_met ((b6, v26, v35)) (⟨hs26, hs35⟩) (.cons rfl (.cons rfl (.cons rfl (.nil _)))) (.cons rfl (.cons rfl (.cons rfl (.cons rfl (.cons rfl (.nil _)))))) (.cons rfl (.cons rfl (.nil _)))
      ·
        refine wo (i := 24) rfl ?_
        refine st_alloc (h := 6) ty42 rfl rfl rfl (fun b6 => ?_)
        refine op_nil ?_
        refine ax_then ?_
        refine mxp_one (i := 22) (by decide +kernel) (fun w sw => CF.cons (lies_blk (sw.blk_eq (h := 0) rfl)) (sw.cf (.refl _))) ?_
        refine wo (i := 22) rfl ?_
        refine st_call has55 rfl (fun w1 sw => rn 35 (rpath_any v (Ky.leaves s 16) (n : Int) w1 hlu (by rw [hll]; decide) (by omega) (sw.sl_rd (h := 1) rfl))) nil_all rfl rfl (fun v35 _ => ?_)
        refine at_own_shape (h := 35) rfl (fun hs35 => ?_)
        refine op_nil ?_
        refine ax_then ?_
        refine mxp (i := 23) rfl (by decide +kernel) (by decide +kernel) (by decide +kernel) rfl (fun w0 => ev_build_struct ty42 rfl pl42 rfl ((fill_put (i := 0) (off := 0) (n := 1) (vs := [.int .i64 (n : Int)]) rfl rfl rfl (Nat.le_of_ble_eq_true rfl)).trans ((fill_put (i := 1) (off := 1) (n := 1) (vs := [v26]) rfl hs26.1 rfl (Nat.le_of_ble_eq_true rfl)).trans ((fill_put (i := 2) (off := 2) (n := 1) (vs := [v35]) rfl hs35.1 rfl (Nat.le_of_ble_eq_true rfl)).trans fill_nil)))) rfl rfl (fun w sw => CF.cons (lies_blk (sw.blk_eq (h := 0) rfl)) (sw.cf (.refl _))) ?_
        refine at_eq (i := 36) (v' := .agg (List.toArray [.int .i64 (n : Int), v26, v35])) rfl rfl ?_
        refine mxp_one (i := 25) (by decide +kernel) (fun w sw => CF.cons (lies_blk (sw.blk_eq (h := 0) rfl)) (sw.cf (.refl _))) ?_
        refine wo (i := 25) rfl ?_
        refine st_store_all 6 ty42 rfl rfl rfl rfl rfl (by intro u hu; simp at hu; rcases hu with rfl | rfl | rfl; rfl; exact hs26.2; exact hs35.2) rfl rfl ?_
        refine op_nil ?_
        refine ax_then ?_
        refine mxp_done (by decide +kernel) (fun w sw => CF.cons (lies_blk (sw.blk_eq (h := 0) rfl)) (sw.cf (.refl _))) ?_
        exact at_met ((b6, v26, v35)) (⟨hs26, hs35⟩) (.cons rfl (.cons rfl (.cons rfl (.nil _)))) (.cons rfl (.cons rfl (.cons rfl (.cons rfl (.cons rfl (.nil _)))))) (.cons rfl (.cons rfl (.nil _)))
    ·
      refine wo (i := 24) rfl ?_
      refine st_alloc (h := 6) ty42 rfl rfl rfl (fun b6 => ?_)
      refine op_nil ?_
      refine ax_then ?_
      refine mxp_one (i := 13) (by decide +kernel) (fun w sw => CF.cons (lies_blk (sw.blk_eq (h := 0) rfl)) (sw.cf (.refl _))) ?_
      refine wo (i := 13) rfl ?_
      refine st_call has54 rfl (fun w1 sw => rn 26 (rsign_any s n q m w1 (by first | rfl | assumption) (by first | decide | omega) (sw.sl_rd (h := 2) rfl))) nil_all rfl rfl (fun v26 _ => ?_)
      have hsu26 := sign_h32 s n m 36
      have hsn26 := sign_len s n m 36
      refine at_own_shape (h := 26) rfl (fun hs26 => ?_)
      refine op_nil ?_
      refine ax_then ?_
      refine mxp_one (i := 22) (by decide +kernel) (fun w sw => CF.cons (lies_blk (sw.blk_eq (h := 0) rfl)) (sw.cf (.refl _))) ?_
      refine wo (i := 22) rfl ?_
      refine st_call has55 rfl (fun w1 sw => rn 35 (rpath_any v (Ky.leaves s 16) (n : Int) w1 hlu (by rw [hll]; decide) (by omega) (sw.sl_rd (h := 1) rfl))) nil_all rfl rfl (fun v35 _ => ?_)
      refine at_own_shape (h := 35) rfl (fun hs35 => ?_)
      refine op_nil ?_
      refine ax_then ?_
      refine mxp (i := 23) rfl (by decide +kernel) (by decide +kernel) (by decide +kernel) rfl (fun w0 => ev_build_struct ty42 rfl pl42 rfl ((fill_put (i := 0) (off := 0) (n := 1) (vs := [.int .i64 (n : Int)]) rfl rfl rfl (Nat.le_of_ble_eq_true rfl)).trans ((fill_put (i := 1) (off := 1) (n := 1) (vs := [v26]) rfl hs26.1 rfl (Nat.le_of_ble_eq_true rfl)).trans ((fill_put (i := 2) (off := 2) (n := 1) (vs := [v35]) rfl hs35.1 rfl (Nat.le_of_ble_eq_true rfl)).trans fill_nil)))) rfl rfl (fun w sw => CF.cons (lies_blk (sw.blk_eq (h := 0) rfl)) (sw.cf (.refl _))) ?_
      refine at_eq (i := 36) (v' := .agg (List.toArray [.int .i64 (n : Int), v26, v35])) rfl rfl ?_
      refine mxp_one (i := 25) (by decide +kernel) (fun w sw => CF.cons (lies_blk (sw.blk_eq (h := 0) rfl)) (sw.cf (.refl _))) ?_
      refine wo (i := 25) rfl ?_
      refine st_store_all 6 ty42 rfl rfl rfl rfl rfl (by intro u hu; simp at hu; rcases hu with rfl | rfl | rfl; rfl; exact hs26.2; exact hs35.2) rfl rfl ?_
      refine op_nil ?_
      refine ax_then ?_
      refine mxp_done (by decide +kernel) (fun w sw => CF.cons (lies_blk (sw.blk_eq (h := 0) rfl)) (sw.cf (.refl _))) ?_
      exact at_met ((b6, v26, v35)) (⟨hs26, hs35⟩) (.cons rfl (.cons rfl (.cons rfl (.nil _)))) (.cons rfl (.cons rfl (.cons rfl (.cons rfl (.cons rfl (.nil _)))))) (.cons rfl (.cons rfl (.nil _)))
  ·
    obtain ⟨b6, v26, v35⟩ := x
    dsimp only at hj ⊢
    obtain ⟨hs26, hs35⟩ := hj
    refine cd_seq ?_
    refine cd_region ?_
    refine st (ev_move rfl) rfl rfl rfl ?_
    refine st (ev_nilCheck rfl) rfl rfl rfl ?_
    refine st (ev_fieldAddr (b := _) Try.underlying55 (f := _) rfl ty3 (by decide) rfl) rfl rfl rfl ?_
    refine st (ld_blk1 (h := 0) ty3 rfl rfl rfl (Ky.rcells_65 hl (Ky.keyPub_len s) _ _)) rfl rfl rfl ?_
    refine st (ev_add64 rfl rfl (by omega) (by omega)) rfl rfl rfl ?_
    refine st (ev_nilCheck rfl) rfl rfl rfl ?_
    refine st (ev_fieldAddr (b := _) Try.underlying55 (f := _) rfl ty3 (by decide) rfl) rfl rfl rfl ?_
    refine st_store1 0 ty3 rfl rfl rfl rfl (by rw [Ky.rcells_len hl (Ky.keyPub_len s)]; decide) rfl ?_
    refine at_heq (i := 0) (v' := .blk (b) (.cells (Ky.rcells s v (Ky.keyPub s) (((n + 1 : Nat) : Int))).toArray 55)) rfl (congrArg (fun l : List Value => Ent.blk b (.cells l.toArray 55)) (Ky.rcells_set65 hl (Ky.keyPub_len s) _ _ _)) ?_
    refine op_nil ?_
    refine ax_then ?_
    refine At.regs (L' := [(4, _), (6, _)]) (.cons rfl (.cons rfl (.nil _))) ?_
    refine cd_seq ?_
    refine cd_region ?_
    refine st (ld_blk_all (h := 6) ty42 rfl rfl rfl (by first | omega | (simp only [List.length_append, List.length_cons, List.length_nil, List.length_set, List.length_replicate, List.length_take, List.length_drop, ints_length, wr_length, sha_len, node_len, recov_len, Ky.named_len, Ky.keyPub_len] <;> omega) | rfl)) rfl rfl rfl ?_
    refine st_store_all 4 ty42 rfl rfl rfl rfl rfl (by intro u hu; simp at hu; rcases hu with rfl | rfl | rfl; rfl; exact hs26.2; exact hs35.2) rfl rfl ?_
    refine st (ev_assign rfl) rfl rfl rfl ?_
    refine op_nil ?_
    refine ax_then ?_
    refine At.regs (L' := [(4, _), (5, _)]) (.cons rfl (.cons rfl (.nil _))) ?_
    refine cd_ret ?_
    refine rt_cell_tmp (h0 := 4) (.inl rfl) Try.results30 ty42 rfl rfl rfl (by first | omega | (simp only [List.length_append, List.length_cons, List.length_nil, List.length_set, List.length_replicate, List.length_take, List.length_drop, ints_length, wr_length, sha_len, node_len, recov_len, Ky.named_len, Ky.keyPub_len] <;> omega) | rfl) rfl ?_
    exact fun w1 sw => ⟨(v26, v35), trivial, rfl, (sw.gives (N := [(0, _), (26, _), (35, _)]) (.cons rfl (.cons rfl (.cons rfl (.nil _))))).rn3 (by decide) (by decide) (by decide) 0 1 2⟩

end Go.Proofs.Yteedclmcgifmpaa
