/- Walks: digits, Link, Mac. -/
import Derived.Test.YtcglackbpfnfdaaSha3
import Derived.Test.YtcglackbpfnfdaaD2
import Derived.Test.YtcglackbpfnfdaaD3
import Derived.Test.YtcglackbpfnfdaaFw9
namespace Go.Proofs.Ytcglackbpfnfdaa
open Go Go.RowKit Fw
open Sha
set_option linter.unusedVariables false
set_option linter.unusedSimpArgs false

set_option maxRecDepth 20000 in
set_option maxHeartbeats 2000000 in
theorem hex_any (h : List Int) (w : World) (hl : h.length = 32) (hb : Byt h) : Calls Try.prog 22 #[.agg (ints .u8 (h)).toArray] w (PostV w (.string (strOf (hexL h)))) := by
  refine calls_at (vs := [.agg (ints .u8 (h)).toArray]) (X := []) (H := []) (F := []) 22 Try.func22 rfl rfl rfl (Sat.start0 w) ?_
  refine cd_seq ?_
  refine cd_region ?_
  refine st_box (h := 1) rfl rfl rfl rfl (fun b1 => ?_)
  refine st (ev_assign rfl) rfl rfl rfl ?_
  refine op_nil ?_
  refine ax_then ?_
  refine At.regs (L' := [(1, _), (2, _)]) (.cons rfl (.cons rfl (.nil _))) ?_
  refine cd_seq ?_
  refine cd_region ?_
  refine st (ev_assign rfl) rfl rfl rfl ?_
  refine at_own_nil 3 5 1 ?_
  refine at_heq (i := 3) (v' := .own (.slice none 0 0) 5 1 (ints .u8 [])) rfl rfl ?_
  refine op_nil ?_
  refine ax_then ?_
  refine At.regs (L' := [(1, _), (2, _), (3, _)]) (.cons rfl (.cons rfl (.cons rfl (.nil _)))) ?_
  refine cd_seq ?_
  refine cd_seq ?_
  refine cd_region ?_
  refine st (ld_blk_all (h := 1) ty32 rfl rfl rfl (by first | omega | (simp only [List.length_append, List.length_cons, List.length_nil, List.length_set, List.length_replicate, List.length_take, List.length_drop, ints_length, wr_length, comp_len, absorb_len, S0_len, hexL_len, sha_len, xorl_len, fit_len] <;> omega) | rfl)) rfl rfl rfl ?_
  refine st (ev_move rfl) rfl rfl rfl ?_
  refine op_nil ?_
  refine ax_then ?_
  refine At.regs (L' := [(2, _), (3, _), (6, _), (7, _)]) (.cons rfl (.cons rfl (.cons rfl (.cons rfl (.nil _))))) ?_
  refine cd_block ?_
  refine cd_loop (ι := Nat × Value) (fun x => x.1 ≤ 32) (fun x => 32 - x.1)
      (fun x => [(3, x.2), (6, .agg (ints .u8 (h)).toArray), (7, .int .i64 (x.1 : Int))])
      (fun x => [(3, .own (x.2) 5 1 (ints .u8 (hexL (h.take x.1))))])
      (fun x => [])
      (0, .slice none 0 0) (by omega) (.cons rfl (.cons rfl (.cons rfl (.nil _)))) (.cons rfl (.nil _)) (.nil _) (fun x hi => ?_)
  have hx := hb.get (i := (x.1 : Int).toNat)
  have e0 : (x.1 : Int).toNat = x.1 := by omega
  have hq : 0 ≤ h.getD (x.1 : Int).toNat 0 / 16 ∧ h.getD (x.1 : Int).toNat 0 / 16 < 16 := by omega
  have hm : 0 ≤ h.getD (x.1 : Int).toNat 0 % 16 ∧ h.getD (x.1 : Int).toNat 0 % 16 < 16 := by omega
  have htk : (h.take x.1).length ≤ 32 := by rw [List.length_take]; omega
  refine cd_seq ?_
  refine cd_region ?_
  refine st (ev_lss rfl rfl) rfl rfl rfl ?_
  refine op_nil ?_
  refine ax_then ?_
  refine At.regs (L' := [(3, _), (6, _), (7, _), (8, _)]) (.cons rfl (.cons rfl (.cons rfl (.cons rfl (.nil _))))) ?_
  refine cd_seq ?_
  refine cd_if rfl (fun hc8 => ?_) (fun hc8 => ?_)
  ·
    refine cd_skip ?_
    refine ax_then ?_
    refine At.regs (L' := [(3, _), (6, _), (7, _), (8, _)]) (.cons rfl (.cons rfl (.cons rfl (.cons rfl (.nil _))))) ?_
    refine cd_seq ?_
    refine cd_block ?_
    refine cd_seq ?_
    refine cd_region ?_
    refine st (ev_indexi Try.underlying32 ty5 rfl rfl (by omega) (by omega) (by first | omega | (simp only [List.length_append, List.length_cons, List.length_nil, List.length_set, List.length_replicate, List.length_take, List.length_drop, ints_length, wr_length, comp_len, absorb_len, S0_len, hexL_len, sha_len, xorl_len, fit_len] <;> omega) | rfl)) rfl rfl rfl ?_
    refine st (ev_assign rfl) rfl rfl rfl ?_
    refine op_nil ?_
    refine ax_then ?_
    refine At.regs (L' := [(3, _), (5, _), (6, _), (7, _), (8, _), (9, _)]) (.cons rfl (.cons rfl (.cons rfl (.cons rfl (.cons rfl (.cons rfl (.nil _))))))) ?_
    refine cd_mix hmix ?_
    refine mx (i := 0) rfl (by decide +kernel) (by decide +kernel) (by decide +kernel) rfl (fun w0 => ev_move rfl) rfl rfl (Sub.refl _) ?_
    refine mx (i := 1) rfl (by decide +kernel) (by decide +kernel) (by decide +kernel) rfl (fun w0 => ev_move rfl) rfl rfl (Sub.refl _) ?_
    refine mx (i := 2) rfl (by decide +kernel) (by decide +kernel) (by decide +kernel) rfl (fun w0 => ev_shr rfl rfl (by omega)) rfl rfl (Sub.refl _) ?_
    refine at_eq (i := 12) (v' := .int .u8 (h.getD (x.1 : Int).toNat 0 / 16)) rfl (by rw [shr4]) ?_
    refine mx (i := 3) rfl (by decide +kernel) (by decide +kernel) (by decide +kernel) rfl (fun w0 => ev_index_str Try.underlying9 rfl rfl hq.1 (digit_at _ hq.1 hq.2)) rfl rfl (Sub.refl _) ?_
    refine at_eq (i := 13) (v' := .int .u8 (digits.getD (h.getD (x.1 : Int).toNat 0 / 16).toNat 0)) rfl (by rw [digit_byte]) ?_
    refine mx (i := 4) rfl (by decide +kernel) (by decide +kernel) (by decide +kernel) rfl (fun w0 => ev_move rfl) rfl rfl (Sub.refl _) ?_
    refine mx (i := 5) rfl (by decide +kernel) (by decide +kernel) (by decide +kernel) rfl (fun w0 => ev_and rfl rfl) rfl rfl (Sub.refl _) ?_
    refine at_eq (i := 15) (v' := .int .u8 (h.getD (x.1 : Int).toNat 0 % 16)) rfl (by rw [bit15 _ hx.1 hx.2]) ?_
    refine mx (i := 6) rfl (by decide +kernel) (by decide +kernel) (by decide +kernel) rfl (fun w0 => ev_index_str Try.underlying9 rfl rfl hm.1 (digit_at _ hm.1 hm.2)) rfl rfl (Sub.refl _) ?_
    refine at_eq (i := 16) (v' := .int .u8 (digits.getD (h.getD (x.1 : Int).toNat 0 % 16).toNat 0)) rfl (by rw [digit_byte]) ?_
    refine mx_one (i := 7) (by decide +kernel) (Sub.refl _) ?_
    refine wo (i := 7) rfl ?_
    refine st_bsi (h := 17) (xs := [_, _]) Try.underlying34 ty5 (by decide) rfl rfl (by decide) rfl rfl (fun b17 => ?_)
    refine op_nil ?_
    refine ax_then ?_
    refine mx_one (i := 8) (by decide +kernel) (Sub.refl _) ?_
    refine wo (i := 8) rfl ?_
    refine st_appendi (h := 3) Try.underlying34 Try.underlying34 ty5 rfl rfl rfl rfl (fun w1 sw => sw.own_rd (h := 17) rfl) (by first | omega | (simp only [List.length_append, List.length_cons, List.length_nil, List.length_set, List.length_replicate, List.length_take, List.length_drop, ints_length, wr_length, comp_len, absorb_len, S0_len, hexL_len, sha_len, xorl_len, fit_len] <;> omega)) (by decide) rfl rfl (fun v18 => ?_)
    refine op_nil ?_
    refine ax_then ?_
    refine mx (i := 9) rfl (by decide +kernel) (by decide +kernel) (by decide +kernel) rfl (fun w0 => ev_assign rfl) rfl rfl (Sub.refl _) ?_
    refine mx_done (by decide +kernel) (Sub.refl _) ?_
    refine ax_block ?_
    refine ax_then ?_
    refine At.regs (L' := [(3, _), (5, _), (6, _), (7, _), (8, _), (9, _), (10, _), (11, _), (12, _), (13, _), (14, _), (15, _), (16, _), (17, _), (18, _)]) (.cons rfl (.cons rfl (.cons rfl (.cons rfl (.cons rfl (.cons rfl (.cons rfl (.cons rfl (.cons rfl (.cons rfl (.cons rfl (.cons rfl (.cons rfl (.cons rfl (.cons rfl (.nil _)))))))))))))))) ?_
    refine cd_region ?_
    refine st (ev_add64 rfl rfl (by omega) (by omega)) rfl rfl rfl ?_
    refine st (ev_move rfl) rfl rfl rfl ?_
    refine op_nil ?_
    refine ax_heq (i := 3) (v' := .own (v18) 5 1 (ints .u8 (hexL (h.take (x.1 + 1))))) rfl (by simp only [e0]; rw [hexL_snoc (by omega)]) ?_
    exact at_again ((x.1 + 1, v18)) (by show x.1 + 1 ≤ 32; omega) (by omega) (.cons rfl (.cons rfl (.cons rfl (.nil _)))) (.cons rfl (.nil _)) (.nil _)
  ·
    obtain ⟨j, v⟩ := x
    dsimp only at hi hc8 ⊢
    obtain rfl : j = 32 := by omega
    refine at_heq (i := 3) (v' := .own (v) 5 1 (ints .u8 (hexL h))) rfl (by rw [List.take_of_length_le (by omega)]) ?_
    refine cd_exit ?_
    refine ax_then_exit ?_
    refine ax_then_exit ?_
    refine ax_block_hit ?_
    refine ax_then ?_
    refine At.regs (L' := [(3, _)]) (.cons rfl (.nil _)) ?_
    refine cd_seq ?_
    refine cd_region ?_
    refine st (ev_move rfl) rfl rfl rfl ?_
    refine st (ev_string (l := hexL h) Try.underlying34 Try.underlying5 Try.underlying9 rfl (fun w1 sw => sw.own_rd (h := 3) rfl)) rfl rfl rfl ?_
    refine st (ev_assign rfl) rfl rfl rfl ?_
    refine op_nil ?_
    refine ax_then ?_
    refine At.regs (L' := [(2, _)]) (.cons rfl (.nil _)) ?_
    refine cd_ret ?_
    refine rt_tmp (.inl rfl) Try.results22 rfl ?_
    exact fun w1 sw => ⟨rfl, sw.gives (.nil _)⟩

set_option maxRecDepth 20000 in
set_option maxHeartbeats 2000000 in
theorem rhex_any (h : List Int) (w : World) (hl : h.length = 32) (hb : Byt h) : Calls Try.prog 23 #[.agg (ints .u8 (h)).toArray] w (PostV w (.string (strOf (hexL h)))) := by
  refine calls_at (vs := [.agg (ints .u8 (h)).toArray]) (X := []) (H := []) (F := []) 33 Try.func23 rfl rfl rfl (Sat.start0 w) ?_
  refine cd_seq ?_
  refine cd_region ?_
  refine st_box (h := 1) rfl rfl rfl rfl (fun b1 => ?_)
  refine st (ev_assign rfl) rfl rfl rfl ?_
  refine op_nil ?_
  refine ax_then ?_
  refine At.regs (L' := [(1, _), (2, _)]) (.cons rfl (.cons rfl (.nil _))) ?_
  refine cd_seq ?_
  refine cd_region ?_
  refine st (ev_assign rfl) rfl rfl rfl ?_
  refine op_nil ?_
  refine ax_then ?_
  refine At.regs (L' := [(1, _), (2, _), (3, _)]) (.cons rfl (.cons rfl (.cons rfl (.nil _)))) ?_
  refine cd_seq ?_
  refine cd_seq ?_
  refine cd_region ?_
  refine st (ev_assign rfl) rfl rfl rfl ?_
  refine op_nil ?_
  refine ax_then ?_
  refine At.regs (L' := [(1, _), (2, _), (3, _), (4, _)]) (.cons rfl (.cons rfl (.cons rfl (.cons rfl (.nil _))))) ?_
  refine cd_block ?_
  refine cd_loop (ι := Nat) (fun i => i ≤ 32) (fun i => 32 - i)
      (fun i => [(1, .pointer (some ⟨b1, 0, none⟩)), (3, .string (strOf (hexL (h.take i)))), (4, .int .i64 (i : Int))])
      (fun i => [(1, .blk b1 (.cells (ints .u8 (h)).toArray 32))])
      (fun i => [])
      0 (by omega) (.cons rfl (.cons rfl (.cons rfl (.nil _)))) (.cons rfl (.nil _)) (.nil _) (fun i hi => ?_)
  have hx := hb.get (i := i)
  have e0 : 0 + (i : Int).toNat * 1 = i := by omega
  have hq : 0 ≤ h.getD i 0 / 16 ∧ h.getD i 0 / 16 < 16 := by omega
  have hm : 0 ≤ h.getD i 0 % 16 ∧ h.getD i 0 % 16 < 16 := by omega
  have hz : (strOf (hexL (h.take i))).size ≤ 64 := by rw [strOf_size, hexL_len, List.length_take]; omega
  have hz1 : ∀ c, (strOf [c]).size = 1 := fun c => strOf_size _
  refine cd_seq ?_
  refine cd_seq ?_
  refine cd_region ?_
  refine st (ev_move rfl) rfl rfl rfl ?_
  refine st (ev_lss rfl rfl) rfl rfl rfl ?_
  refine op_nil ?_
  refine ax_then ?_
  refine At.regs (L' := [(1, _), (3, _), (4, _), (5, _), (6, _)]) (.cons rfl (.cons rfl (.cons rfl (.cons rfl (.cons rfl (.nil _)))))) ?_
  refine cd_if rfl (fun hc6 => ?_) (fun hc6 => ?_)
  ·
    refine cd_skip ?_
    refine ax_then ?_
    refine At.regs (L' := [(1, _), (3, _), (4, _), (5, _), (6, _)]) (.cons rfl (.cons rfl (.cons rfl (.cons rfl (.cons rfl (.nil _)))))) ?_
    refine cd_seq ?_
    refine cd_block ?_
    refine cd_open hmix (by decide +kernel) ?_
    refine qt (ev_move rfl) rfl rfl rfl ?_
    refine qt (ev_move rfl) rfl rfl rfl ?_
    refine qt (ev_indexAddr_arr Try.underlying32 ty5 rfl rfl (by omega) (by omega)) rfl rfl rfl ?_
    refine qt (ld_blk1 (h := 1) ty5 rfl rfl rfl (ints_get _ _ _ (by first | omega | (simp only [List.length_append, List.length_cons, List.length_nil, List.length_set, List.length_replicate, List.length_take, List.length_drop, ints_length, wr_length, comp_len, absorb_len, S0_len, hexL_len, sha_len, xorl_len, fit_len] <;> omega) | rfl))) rfl rfl rfl ?_
    refine qt_eq (i := 12) (v' := .int .u8 (h.getD i 0)) rfl (by rw [e0]) ?_
    refine qt (ev_quou8 rfl rfl hx.1 hx.2 (by omega)) rfl rfl rfl ?_
    refine qt (ev_move rfl) rfl rfl rfl ?_
    refine qt (ev_indexAddr_arr Try.underlying32 ty5 rfl rfl (by omega) (by omega)) rfl rfl rfl ?_
    refine qt (ld_blk1 (h := 1) ty5 rfl rfl rfl (ints_get _ _ _ (by first | omega | (simp only [List.length_append, List.length_cons, List.length_nil, List.length_set, List.length_replicate, List.length_take, List.length_drop, ints_length, wr_length, comp_len, absorb_len, S0_len, hexL_len, sha_len, xorl_len, fit_len] <;> omega) | rfl))) rfl rfl rfl ?_
    refine qt_eq (i := 16) (v' := .int .u8 (h.getD i 0)) rfl (by rw [e0]) ?_
    refine qt (ev_quou8 rfl rfl hx.1 hx.2 (by omega)) rfl rfl rfl ?_
    refine qt (ev_addu8 rfl rfl (by omega) (by omega)) rfl rfl rfl ?_
    refine qt (ev_slice_str Try.underlying9 rfl rfl rfl hq.1 (by omega) (by show (h.getD i 0 / 16 + 1 : Int) ≤ 16; omega)) rfl rfl rfl ?_
    refine qt_eq (i := 19) (v' := .string (strOf [digits.getD (h.getD i 0 / 16).toNat 0])) rfl (by rw [digit_cut _ hq.1 hq.2]) ?_
    refine qt (ev_concat rfl rfl (by rw [hz1]; omega)) rfl rfl rfl ?_
    refine qt (ev_move rfl) rfl rfl rfl ?_
    refine qt (ev_indexAddr_arr Try.underlying32 ty5 rfl rfl (by omega) (by omega)) rfl rfl rfl ?_
    refine qt (ld_blk1 (h := 1) ty5 rfl rfl rfl (ints_get _ _ _ (by first | omega | (simp only [List.length_append, List.length_cons, List.length_nil, List.length_set, List.length_replicate, List.length_take, List.length_drop, ints_length, wr_length, comp_len, absorb_len, S0_len, hexL_len, sha_len, xorl_len, fit_len] <;> omega) | rfl))) rfl rfl rfl ?_
    refine qt_eq (i := 23) (v' := .int .u8 (h.getD i 0)) rfl (by rw [e0]) ?_
    refine qt (ev_remu8 rfl rfl hx.1 (by omega)) rfl rfl rfl ?_
    refine qt (ev_move rfl) rfl rfl rfl ?_
    refine qt (ev_indexAddr_arr Try.underlying32 ty5 rfl rfl (by omega) (by omega)) rfl rfl rfl ?_
    refine qt (ld_blk1 (h := 1) ty5 rfl rfl rfl (ints_get _ _ _ (by first | omega | (simp only [List.length_append, List.length_cons, List.length_nil, List.length_set, List.length_replicate, List.length_take, List.length_drop, ints_length, wr_length, comp_len, absorb_len, S0_len, hexL_len, sha_len, xorl_len, fit_len] <;> omega) | rfl))) rfl rfl rfl ?_
    refine qt_eq (i := 27) (v' := .int .u8 (h.getD i 0)) rfl (by rw [e0]) ?_
    refine qt (ev_remu8 rfl rfl hx.1 (by omega)) rfl rfl rfl ?_
    refine qt (ev_addu8 rfl rfl (by omega) (by omega)) rfl rfl rfl ?_
    refine qt (ev_slice_str Try.underlying9 rfl rfl rfl hm.1 (by omega) (by show (h.getD i 0 % 16 + 1 : Int) ≤ 16; omega)) rfl rfl rfl ?_
    refine qt_eq (i := 30) (v' := .string (strOf [digits.getD (h.getD i 0 % 16).toNat 0])) rfl (by rw [digit_cut _ hm.1 hm.2]) ?_
    refine qt (ev_concat rfl rfl (by rw [ByteArray.size_append, hz1, hz1]; omega)) rfl rfl rfl ?_
    refine qt (ev_assign rfl) rfl rfl rfl ?_
    refine qt_end ?_
    refine op_nil ?_
    refine ax_block ?_
    refine ax_then ?_
    refine At.regs (L' := [(1, _), (3, _), (4, _), (5, _), (6, _), (9, _), (10, _), (11, _), (12, _), (13, _), (14, _), (15, _), (16, _), (17, _), (18, _), (19, _), (20, _), (21, _), (22, _), (23, _), (24, _), (25, _), (26, _), (27, _), (28, _), (29, _), (30, _), (31, _)]) (.cons rfl (.cons rfl (.cons rfl (.cons rfl (.cons rfl (.cons rfl (.cons rfl (.cons rfl (.cons rfl (.cons rfl (.cons rfl (.cons rfl (.cons rfl (.cons rfl (.cons rfl (.cons rfl (.cons rfl (.cons rfl (.cons rfl (.cons rfl (.cons rfl (.cons rfl (.cons rfl (.cons rfl (.cons rfl (.cons rfl (.cons rfl (.cons rfl (.nil _))))))))))))))))))))))))))))) ?_
    refine cd_region ?_
    refine st (ev_move rfl) rfl rfl rfl ?_
    refine st (ev_add64 rfl rfl (by omega) (by omega)) rfl rfl rfl ?_
    refine st (ev_assign rfl) rfl rfl rfl ?_
    refine op_nil ?_
    refine ax_eq (i := 3) (v' := .string (strOf (hexL (h.take (i + 1))))) rfl (by rw [hexL_snoc (by omega), show ∀ a b : Int, [a, b] = [a] ++ [b] from fun _ _ => rfl, ← List.append_assoc, strOf_append, strOf_append]) ?_
    exact at_again (i + 1) (by omega) (by omega) (.cons rfl (.cons rfl (.cons rfl (.nil _)))) (.cons rfl (.nil _)) (.nil _)
  ·
    obtain rfl : i = 32 := by omega
    refine at_eq (i := 3) (v' := .string (strOf (hexL h))) rfl (by rw [List.take_of_length_le (by omega)]) ?_
    refine cd_exit ?_
    refine ax_then_exit ?_
    refine ax_then_exit ?_
    refine ax_block_hit ?_
    refine ax_then ?_
    refine At.regs (L' := [(3, _)]) (.cons rfl (.nil _)) ?_
    refine cd_seq ?_
    refine cd_region ?_
    refine st (ev_move rfl) rfl rfl rfl ?_
    refine st (ev_assign rfl) rfl rfl rfl ?_
    refine op_nil ?_
    refine ax_then ?_
    refine At.regs (L' := [(2, _)]) (.cons rfl (.nil _)) ?_
    refine cd_ret ?_
    refine rt_tmp (.inl rfl) Try.results23 rfl ?_
    exact fun w1 sw => ⟨rfl, sw.gives (.nil _)⟩

set_option maxRecDepth 20000 in
set_option maxHeartbeats 1000000 in
theorem roomy_any (p : Value) (b : List Int) (w : World) (hl : b.length ≤ 1000000) (h : Rd w p 1 (ints .u8 b)) : Calls Try.prog 13 #[p] w (Post (ι := Value) w [] (fun _ => True) (fun v => v) (fun v => [(0, .own (v) 5 1 (ints .u8 (b ++ [171])))])) := by
  refine calls_at (vs := [p]) (X := []) (H := []) (F := [(0, .sl p 1 (ints .u8 (b)))]) 14 Try.func13 rfl rfl rfl (Sat.rd0 0 h) ?_
  refine cd_seq ?_
  refine cd_region ?_
  refine st (ev_assign rfl) rfl rfl rfl ?_
  refine at_own_nil 2 5 1 ?_
  refine at_heq (i := 2) (v' := .own (.slice none 0 0) 5 1 (ints .u8 [])) rfl rfl ?_
  refine op_nil ?_
  refine ax_then ?_
  refine At.regs (L' := [(0, _), (2, _)]) (.cons rfl (.cons rfl (.nil _))) ?_
  refine cd_seq ?_
  refine cd_region ?_
  refine st_bsi (h := 3) (xs := []) Try.underlying34 ty5 (by decide) rfl rfl (by decide) rfl rfl (fun b3 => ?_)
  refine st (ev_move rfl) rfl rfl rfl ?_
  refine st_appendi (h := 3) Try.underlying34 Try.underlying34 ty5 rfl rfl rfl rfl (fun w1 sw => sw.sl_rd (h := 0) rfl) (by first | omega | (simp only [List.length_append, List.length_cons, List.length_nil, List.length_set, List.length_replicate, List.length_take, List.length_drop, ints_length, wr_length, comp_len, absorb_len, S0_len, hexL_len, sha_len, xorl_len, fit_len] <;> omega)) (by decide) rfl rfl (fun v5 => ?_)
  refine st_bsi (h := 6) (xs := [_]) Try.underlying34 ty5 (by decide) rfl rfl (by decide) rfl rfl (fun b6 => ?_)
  refine st_appendi (h := 3) Try.underlying34 Try.underlying34 ty5 rfl rfl rfl rfl (fun w1 sw => sw.own_rd (h := 6) rfl) (by first | omega | (simp only [List.length_append, List.length_cons, List.length_nil, List.length_set, List.length_replicate, List.length_take, List.length_drop, ints_length, wr_length, comp_len, absorb_len, S0_len, hexL_len, sha_len, xorl_len, fit_len] <;> omega)) (by decide) rfl rfl (fun v7 => ?_)
  refine st_bsi (h := 8) (xs := [_]) Try.underlying34 ty5 (by decide) rfl rfl (by decide) rfl rfl (fun b8 => ?_)
  refine st_appendi (h := 3) Try.underlying34 Try.underlying34 ty5 rfl rfl rfl rfl (fun w1 sw => sw.own_rd (h := 8) rfl) (by first | omega | (simp only [List.length_append, List.length_cons, List.length_nil, List.length_set, List.length_replicate, List.length_take, List.length_drop, ints_length, wr_length, comp_len, absorb_len, S0_len, hexL_len, sha_len, xorl_len, fit_len] <;> omega)) (by decide) rfl rfl (fun v9 => ?_)
  refine st (ev_move rfl) rfl rfl rfl ?_
  refine st (ev_len_rdi (h := 0) Try.underlying34 rfl rfl) rfl rfl rfl ?_
  refine st (ev_add64 rfl rfl (by omega) (by omega)) rfl rfl rfl ?_
  refine st (ev_slicei_hi Try.underlying34 ty5 rfl rfl (fun w1 sw => sw.own_rd (h := 3) rfl) (by omega) (by first | omega | (simp only [List.length_append, List.length_cons, List.length_nil, List.length_set, List.length_replicate, List.length_take, List.length_drop, ints_length, wr_length, comp_len, absorb_len, S0_len, hexL_len, sha_len, xorl_len, fit_len] <;> omega))) rfl rfl rfl ?_
  refine at_own_takei (h := 3) (hi := ((b.length : Int) + 1).toNat) rfl (by simp only [List.length_append, List.length_cons, List.length_nil]; omega) ?_
  refine at_heq (i := 3) (v' := .own (cutAt 1 v9 0 ((b.length : Int) + 1).toNat) 5 1 (ints .u8 (b ++ [171]))) rfl (by rw [List.nil_append, cut_room]) ?_
  refine st (ev_assign rfl) rfl rfl rfl ?_
  refine op_nil ?_
  refine ax_then ?_
  refine At.regs (L' := [(2, _)]) (.cons rfl (.nil _)) ?_
  refine cd_ret ?_
  refine rt_tmp (.inl rfl) Try.results13 rfl ?_
  exact fun w1 sw => ⟨_, trivial, rfl, (sw.gives (N := [(3, _)]) (.cons rfl (.nil _))).rn 0⟩

set_option maxRecDepth 20000 in
set_option maxHeartbeats 1000000 in
theorem same_any (p q : Value) (a b : List Int) (w : World) (ha : a.length ≤ 1000000) (hb : b.length ≤ 1000000) (h : Rd w p 1 (ints .u8 a)) (h' : Rd w q 1 (ints .u8 b)) : Calls Try.prog 29 #[p, q] w (PostV w (.bool (decide (a = b)))) := by
  refine calls_at (vs := [p, q]) (X := []) (H := []) (F := [(1, .sl q 1 (ints .u8 (b))), (0, .sl p 1 (ints .u8 (a)))]) 26 Try.func29 rfl rfl rfl ((Sat.rd0 0 h).more 1 h') ?_
  refine cd_seq ?_
  refine cd_region ?_
  refine st (ev_assign rfl) rfl rfl rfl ?_
  refine op_nil ?_
  refine ax_then ?_
  refine At.regs (L' := [(0, _), (1, _), (4, _)]) (.cons rfl (.cons rfl (.cons rfl (.nil _)))) ?_
  refine cd_seq ?_
  refine cd_seq ?_
  refine cd_region ?_
  refine st (ev_move rfl) rfl rfl rfl ?_
  refine st (ev_len_rdi (h := 0) Try.underlying34 rfl rfl) rfl rfl rfl ?_
  refine st (ev_move rfl) rfl rfl rfl ?_
  refine st (ev_len_rdi (h := 1) Try.underlying34 rfl rfl) rfl rfl rfl ?_
  refine st (ev_neq rfl rfl) rfl rfl rfl ?_
  refine op_nil ?_
  refine ax_then ?_
  refine At.regs (L' := [(0, _), (1, _), (4, _), (10, _)]) (.cons rfl (.cons rfl (.cons rfl (.cons rfl (.nil _))))) ?_
  refine cd_if rfl (fun hc10 => ?_) (fun hc10 => ?_)
  ·
    refine cd_seq ?_
    refine cd_region ?_
    refine st (ev_assign rfl) rfl rfl rfl ?_
    refine op_nil ?_
    refine ax_then ?_
    refine At.regs (L' := [(0, _), (1, _), (4, _)]) (.cons rfl (.cons rfl (.cons rfl (.nil _)))) ?_
    refine cd_ret ?_
    refine ax_then_ret ?_
    refine rt_tmp (.inl rfl) Try.results29 rfl ?_
    exact fun w1 sw => ⟨by rw [decide_eq_false (by intro e; subst e; exact hc10 rfl)], sw.gives (.nil _)⟩
  ·
    have hab : a.length = b.length := by omega
    refine cd_skip ?_
    refine ax_then ?_
    refine At.regs (L' := [(0, _), (1, _), (4, _)]) (.cons rfl (.cons rfl (.cons rfl (.nil _)))) ?_
    refine cd_seq ?_
    refine cd_seq ?_
    refine cd_region ?_
    refine st (ev_assign rfl) rfl rfl rfl ?_
    refine op_nil ?_
    refine ax_then ?_
    refine At.regs (L' := [(0, _), (1, _), (4, _), (5, _)]) (.cons rfl (.cons rfl (.cons rfl (.cons rfl (.nil _))))) ?_
    refine cd_block ?_
    refine cd_loop (ι := Nat) (fun i => i ≤ a.length ∧ ∀ j, j < i → a.getD j 0 = b.getD j 0) (fun i => a.length - i)
        (fun i => [(0, p), (1, q), (5, .int .i64 (i : Int))])
        (fun i => [])
        (fun i => [(0, .sl p 1 (ints .u8 (a))), (1, .sl q 1 (ints .u8 (b)))])
        0 (⟨by omega, fun j hj => by omega⟩) (.cons rfl (.cons rfl (.cons rfl (.nil _)))) (.nil _) (.cons rfl (.cons rfl (.nil _))) (fun i hi => ?_)
    have hi1 := hi.1
    refine cd_seq ?_
    refine cd_seq ?_
    refine cd_region ?_
    refine st (ev_move rfl) rfl rfl rfl ?_
    refine st (ev_move rfl) rfl rfl rfl ?_
    refine st (ev_len_rdi (h := 0) Try.underlying34 rfl rfl) rfl rfl rfl ?_
    refine st (ev_lss rfl rfl) rfl rfl rfl ?_
    refine op_nil ?_
    refine ax_then ?_
    refine At.regs (L' := [(0, _), (1, _), (5, _), (11, _), (12, _), (13, _), (14, _)]) (.cons rfl (.cons rfl (.cons rfl (.cons rfl (.cons rfl (.cons rfl (.cons rfl (.nil _)))))))) ?_
    refine cd_if rfl (fun hc14 => ?_) (fun hc14 => ?_)
    ·
      refine cd_skip ?_
      refine ax_then ?_
      refine At.regs (L' := [(0, _), (1, _), (5, _), (11, _), (12, _), (13, _), (14, _)]) (.cons rfl (.cons rfl (.cons rfl (.cons rfl (.cons rfl (.cons rfl (.cons rfl (.nil _)))))))) ?_
      refine cd_seq ?_
      refine cd_block ?_
      refine cd_seq ?_
      refine cd_open hmix (by decide +kernel) ?_
      refine qt (ev_move rfl) rfl rfl rfl ?_
      refine qt (ev_move rfl) rfl rfl rfl ?_
      refine qt (ev_indexAddr_rdi (h := 0) Try.underlying34 ty5 rfl rfl rfl (by omega) (by first | omega | (simp only [List.length_append, List.length_cons, List.length_nil, List.length_set, List.length_replicate, List.length_take, List.length_drop, ints_length, wr_length, comp_len, absorb_len, S0_len, hexL_len, sha_len, xorl_len, fit_len] <;> omega))) rfl rfl rfl ?_
      refine qt (ld_rd1 (h := 0) ty5 rfl rfl rfl (ints_get _ _ _ (by first | omega | (simp only [List.length_append, List.length_cons, List.length_nil, List.length_set, List.length_replicate, List.length_take, List.length_drop, ints_length, wr_length, comp_len, absorb_len, S0_len, hexL_len, sha_len, xorl_len, fit_len] <;> omega) | rfl))) rfl rfl rfl ?_
      refine qt (ev_move rfl) rfl rfl rfl ?_
      refine qt (ev_move rfl) rfl rfl rfl ?_
      refine qt (ev_indexAddr_rdi (h := 1) Try.underlying34 ty5 rfl rfl rfl (by omega) (by first | omega | (simp only [List.length_append, List.length_cons, List.length_nil, List.length_set, List.length_replicate, List.length_take, List.length_drop, ints_length, wr_length, comp_len, absorb_len, S0_len, hexL_len, sha_len, xorl_len, fit_len] <;> omega))) rfl rfl rfl ?_
      refine qt (ld_rd1 (h := 1) ty5 rfl rfl rfl (ints_get _ _ _ (by first | omega | (simp only [List.length_append, List.length_cons, List.length_nil, List.length_set, List.length_replicate, List.length_take, List.length_drop, ints_length, wr_length, comp_len, absorb_len, S0_len, hexL_len, sha_len, xorl_len, fit_len] <;> omega) | rfl))) rfl rfl rfl ?_
      refine qt (ev_neq rfl rfl) rfl rfl rfl ?_
      refine qt_end ?_
      refine op_nil ?_
      refine ax_then ?_
      refine At.regs (L' := [(0, _), (1, _), (5, _), (11, _), (12, _), (13, _), (14, _), (17, _), (18, _), (19, _), (20, _), (21, _), (22, _), (23, _), (24, _), (25, _)]) (.cons rfl (.cons rfl (.cons rfl (.cons rfl (.cons rfl (.cons rfl (.cons rfl (.cons rfl (.cons rfl (.cons rfl (.cons rfl (.cons rfl (.cons rfl (.cons rfl (.cons rfl (.cons rfl (.nil _))))))))))))))))) ?_
      refine cd_if rfl (fun hc25 => ?_) (fun hc25 => ?_)
      ·
        have hne : a ≠ b := by intro e; subst e; exact hc25 rfl
        refine cd_seq ?_
        refine cd_region ?_
        refine st (ev_assign rfl) rfl rfl rfl ?_
        refine op_nil ?_
        refine ax_then ?_
        refine At.regs (L' := [(0, _), (1, _), (4, _), (5, _), (11, _), (12, _), (13, _), (14, _), (17, _), (18, _), (19, _), (20, _), (21, _), (22, _), (23, _), (24, _), (25, _)]) (.cons rfl (.cons rfl (.cons rfl (.cons rfl (.cons rfl (.cons rfl (.cons rfl (.cons rfl (.cons rfl (.cons rfl (.cons rfl (.cons rfl (.cons rfl (.cons rfl (.cons rfl (.cons rfl (.cons rfl (.nil _)))))))))))))))))) ?_
        refine cd_ret ?_
        refine ax_block_ret ?_
        refine ax_then_ret ?_
        refine ax_then_ret ?_
        refine ax_block_ret ?_
        refine ax_then_ret ?_
        refine rt_tmp (.inl rfl) Try.results29 rfl ?_
        exact fun w1 sw => ⟨by rw [decide_eq_false hne], sw.gives (.nil _)⟩
      ·
        refine cd_skip ?_
        refine ax_block ?_
        refine ax_then ?_
        refine At.regs (L' := [(0, _), (1, _), (5, _), (11, _), (12, _), (13, _), (14, _), (17, _), (18, _), (19, _), (20, _), (21, _), (22, _), (23, _), (24, _), (25, _)]) (.cons rfl (.cons rfl (.cons rfl (.cons rfl (.cons rfl (.cons rfl (.cons rfl (.cons rfl (.cons rfl (.cons rfl (.cons rfl (.cons rfl (.cons rfl (.cons rfl (.cons rfl (.cons rfl (.nil _))))))))))))))))) ?_
        refine cd_region ?_
        refine st (ev_move rfl) rfl rfl rfl ?_
        refine st (ev_add64 rfl rfl (by omega) (by omega)) rfl rfl rfl ?_
        refine st (ev_assign rfl) rfl rfl rfl ?_
        refine op_nil ?_
        exact at_again (i + 1) (⟨by omega, fun j hj => (Nat.lt_succ_iff_lt_or_eq.1 hj).elim (hi.2 j) (fun e => by subst e; simpa using hc25)⟩) (by omega) (.cons rfl (.cons rfl (.cons rfl (.nil _)))) (.nil _) (.cons rfl (.cons rfl (.nil _)))
    ·
      obtain rfl : i = a.length := by omega
      refine cd_exit ?_
      refine ax_then_exit ?_
      refine ax_then_exit ?_
      refine ax_block_hit ?_
      refine ax_then ?_
      refine At.regs (L' := []) (.nil _) ?_
      refine cd_seq ?_
      refine cd_region ?_
      refine st (ev_assign rfl) rfl rfl rfl ?_
      refine op_nil ?_
      refine ax_then ?_
      refine At.regs (L' := [(4, _)]) (.cons rfl (.nil _)) ?_
      refine cd_ret ?_
      refine rt_tmp (.inl rfl) Try.results29 rfl ?_
      exact fun w1 sw => ⟨by rw [decide_eq_true (ext_get hab hi.2)], sw.gives (.nil _)⟩

end Go.Proofs.Ytcglackbpfnfdaa
