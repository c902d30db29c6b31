/- The statement's proof, part 4: what its walks and its plain laws need. -/
import Derived.Test.YteedclmcgifmpaaRows
import Derived.Tactics
import Derived.Deep.Quiet
import Derived.StillTail
import Derived.Laws.World
import Derived.Laws.Sem
import Derived.Laws.Entries
import Derived.Below
import Derived.Deep.LoopGhost
import Derived.Laws.BytesString
import Derived.Laws.IdiomStrings
import Derived.KernelRfl
import Derived.Carry
import Derived.OpenShut
import Derived.ProofKit
import Derived.ChangeSame
import Derived.HandedShaped
import Derived.SizedLaws
import Derived.Test.YteedclmcgifmpaaProg
import Derived.Test.YteedclmcgifmpaaXs3
namespace Go.Proofs.Yteedclmcgifmpaa
open Go Go.RowKit Fw
open Sha
open Ots
open Mk
set_option linter.unusedVariables false
set_option linter.unusedSimpArgs false
set_option maxRecDepth 20000 in
set_option maxHeartbeats 2000000 in
theorem new_any (s : List Int) (u : Int) (w : World) (hl : s.length = 32) : Calls Try.prog 26 #[.agg (ints .u8 (s)).toArray, .int .i64 u] w (Post (ι := Nat × Value) w [] (fun _ => True) (fun x => .pointer (some ⟨x.1, 0, none⟩)) (fun x => [(0, .blk (x.1) (.cells (Ky.cells s x.2 (Ky.clamp u)).toArray 81)), (1, .own (x.2) 39 32 (flat (Ky.leaves s 16)))])) := by
  refine calls_at (vs := [.agg (ints .u8 (s)).toArray, .int .i64 u]) (X := []) (H := []) (F := []) 30 Try.func26 rfl rfl rfl (Sat.start0 w) ?_
  refine cd_seq ?_
  refine cd_region ?_
  refine st_box (h := 2) rfl rfl rfl rfl (fun b2 => ?_)
  refine st (ev_assign rfl) rfl rfl rfl ?_
  refine op_nil ?_
  refine ax_then ?_
  refine At.regs (L' := [(1, _), (2, _), (4, _)]) (.cons rfl (.cons rfl (.cons rfl (.nil _)))) ?_
  refine cd_seq ?_
  refine cd_region ?_
  refine st (ld_blk_all (h := 2) ty39 rfl rfl rfl (by first | omega | (simp only [List.length_append, List.length_cons, List.length_nil, List.length_set, List.length_replicate, List.length_take, List.length_drop, ints_length, wr_length, sha_len, node_len, recov_len, Ky.named_len, Ky.keyPub_len] <;> omega) | rfl)) rfl rfl rfl ?_
  refine st (ev_move rfl) rfl rfl rfl ?_
  refine st (ev_max2 rfl rfl) rfl rfl rfl ?_
  refine st (ev_min2 rfl rfl) rfl rfl rfl ?_
  refine at_eq (i := 10) (v' := .int .i64 (Ky.clamp u)) rfl rfl ?_
  refine st (ev_build_struct ty81 rfl pl81 rfl ((fill_put (i := 0) (off := 0) (n := 32) (vs := ints .u8 s) rfl rfl (by rw [ints_length, hl]) (Nat.le_of_ble_eq_true rfl)).trans ((fill_put (i := 2) (off := 33) (n := 1) (vs := [.int .i64 (Ky.clamp u)]) rfl rfl rfl (by rw [wr_length (by rw [ints_length, hl]; exact Nat.le_of_ble_eq_true rfl)]; exact Nat.le_of_ble_eq_true rfl)).trans fill_nil))) rfl rfl rfl ?_
  refine at_eq (i := 11) (v' := .agg (Ky.cells s (.slice none 0 0) (Ky.clamp u)).toArray) rfl (congrArg (fun x => Value.agg (List.toArray x)) (Ky.key_new hl _)) ?_
  refine st_box (h := 12) rfl rfl rfl rfl (fun b12 => ?_)
  refine st (ev_assign rfl) rfl rfl rfl ?_
  refine op_nil ?_
  refine ax_then ?_
  refine At.regs (L' := [(2, _), (4, _), (5, _)]) (.cons rfl (.cons rfl (.cons rfl (.nil _)))) ?_
  refine cd_seq ?_
  refine cd_seq ?_
  refine cd_region ?_
  refine st (ev_move rfl) rfl rfl rfl ?_
  refine op_nil ?_
  refine ax_then ?_
  refine At.regs (L' := [(2, _), (4, _), (5, _), (13, _)]) (.cons rfl (.cons rfl (.cons rfl (.cons rfl (.nil _))))) ?_
  refine cd_block ?_
  refine at_freeze_blk (h := 2) (H' := [(12, _)]) 2 rfl (.cons rfl (.nil _)) rfl ?_
  refine at_own_nil 20 39 32 ?_
  refine at_heq (i := 20) (v' := .own (.slice none 0 0) 39 32 (flat (Ky.leaves s 0))) rfl rfl ?_
  refine cd_loop (ι := Nat × Value) (fun x => x.1 ≤ 16) (fun x => 16 - x.1)
      (fun x => [(2, .pointer (some ⟨b2, 0, none⟩)), (5, .pointer (some ⟨b12, 0, none⟩)), (13, .int .i64 (x.1 : Int))])
      (fun x => [(12, .blk (b12) (.cells (Ky.cells s x.2 (Ky.clamp u)).toArray 81)), (20, .own (x.2) 39 32 (flat (Ky.leaves s x.1)))])
      (fun x => [(2, .mem b2 0 (ints .u8 s))])
      (0, .slice none 0 0) (by omega) (.cons rfl (.cons rfl (.cons rfl (.nil _)))) (.cons rfl (.cons rfl (.nil _))) (.cons rfl (.nil _)) (fun x hi => ?_)
  have hlu := Ky.leaves_h32 s x.1
  have hln := Ky.leaves_len s x.1
  have hpl : (pub s x.1).length = 32 := sha_len _
  refine cd_seq ?_
  refine cd_region ?_
  refine st (ev_lss rfl rfl) rfl rfl rfl ?_
  refine op_nil ?_
  refine ax_then ?_
  refine At.regs (L' := [(2, _), (5, _), (13, _), (14, _)]) (.cons rfl (.cons rfl (.cons rfl (.cons rfl (.nil _))))) ?_
  refine cd_seq ?_
  refine cd_if rfl (fun hc14 => ?_) (fun hc14 => ?_)
  ·
    refine cd_skip ?_
    refine ax_then ?_
    refine At.regs (L' := [(2, _), (5, _), (13, _), (14, _)]) (.cons rfl (.cons rfl (.cons rfl (.cons rfl (.nil _))))) ?_
    refine cd_seq ?_
    refine cd_block ?_
    refine cd_seq ?_
    refine cd_region ?_
    refine st (ev_move rfl) rfl rfl rfl ?_
    refine st (ev_assign rfl) rfl rfl rfl ?_
    refine op_nil ?_
    refine ax_then ?_
    refine At.regs (L' := [(2, _), (5, _), (6, _), (13, _), (14, _), (15, _)]) (.cons rfl (.cons rfl (.cons rfl (.cons rfl (.cons rfl (.cons rfl (.nil _))))))) ?_
    refine cd_mix hmix ?_
    refine mx (i := 0) rfl (by decide +kernel) (by decide +kernel) (by decide +kernel) rfl (fun w0 => ev_move rfl) rfl rfl (Sub.refl _) ?_
    refine mx (i := 1) rfl (by decide +kernel) (by decide +kernel) (by decide +kernel) rfl (fun w0 => ev_move rfl) rfl rfl (Sub.refl _) ?_
    refine mx (i := 2) rfl (by decide +kernel) (by decide +kernel) (by decide +kernel) rfl (fun w0 => ev_nilCheck rfl) rfl rfl (Sub.refl _) ?_
    refine mx (i := 3) rfl (by decide +kernel) (by decide +kernel) (by decide +kernel) rfl (fun w0 => ev_fieldAddr (b := _) Try.underlying81 (f := _) rfl ty26 (by decide) rfl) rfl rfl (Sub.refl _) ?_
    refine mx (i := 5) rfl (by decide +kernel) (by decide +kernel) (by decide +kernel) rfl (fun w0 => ld_mem_all (h := 2) ty39 rfl rfl rfl (by first | omega | (simp only [List.length_append, List.length_cons, List.length_nil, List.length_set, List.length_replicate, List.length_take, List.length_drop, ints_length, wr_length, sha_len, node_len, recov_len, Ky.named_len, Ky.keyPub_len] <;> omega) | rfl)) rfl rfl (Sub.refl _) ?_
    refine mx (i := 6) rfl (by decide +kernel) (by decide +kernel) (by decide +kernel) rfl (fun w0 => ev_move rfl) rfl rfl (Sub.refl _) ?_
    refine mx_two (i := 4) (j := 7) (by decide +kernel) (Sub.refl _) ?_ ?_
    ·
      refine wo (i := 4) rfl ?_
      refine st (ld_blk1 (h := 12) ty26 rfl rfl rfl (Ky.cells_32 hl _ _)) rfl rfl rfl ?_
      refine op_nil ?_
      refine ax_then ?_
      refine mx_one (i := 7) (by decide +kernel) (Sub.refl _) ?_
      refine wo (i := 7) rfl ?_
      refine st_callv has46 rfl (fun w1 sw => public_any s x.1 w1 hl) rfl rfl ?_
      refine op_nil ?_
      refine ax_then ?_
      refine mx_one (i := 8) (by decide +kernel) (Sub.refl _) ?_
      refine wo (i := 8) rfl ?_
      refine st_bsh1 (h := 24) Try.underlying26 ty39 rfl (by first | assumption | omega) rfl rfl (fun b24 hu24 => ?_)
      refine op_nil ?_
      refine ax_then ?_
      refine mx_one (i := 9) (by decide +kernel) (Sub.refl _) ?_
      refine wo (i := 9) rfl ?_
      refine st_appendh (h := 20) Try.underlying26 Try.underlying26 ty39 rfl rfl rfl rfl (fun w1 sw => sw.own_rd (h := 24) rfl) (by assumption) (by assumption) (by first | omega | (simp only [List.length_append, List.length_cons, List.length_nil, List.length_set, List.length_replicate, List.length_take, List.length_drop, ints_length, wr_length, sha_len, node_len, recov_len, Ky.named_len, Ky.keyPub_len] <;> omega)) (by decide) rfl rfl (fun v25 hu25 => ?_)
      refine at_own_shape (h := 20) rfl (fun hs25 => ?_)
      refine op_nil ?_
      refine ax_then ?_
      refine mx (i := 10) rfl (by decide +kernel) (by decide +kernel) (by decide +kernel) rfl (fun w0 => ev_nilCheck rfl) rfl rfl (Sub.refl _) ?_
      refine mx (i := 11) rfl (by decide +kernel) (by decide +kernel) (by decide +kernel) rfl (fun w0 => ev_fieldAddr (b := _) Try.underlying81 (f := _) rfl ty26 (by decide) rfl) rfl rfl (Sub.refl _) ?_
      refine mx_one (i := 12) (by decide +kernel) (Sub.refl _) ?_
      refine wo (i := 12) rfl ?_
      refine st_store1 12 ty26 rfl rfl rfl hs25.2 (by rw [Ky.cells_len hl]; decide) rfl ?_
      refine at_heq (i := 12) (v' := .blk (b12) (.cells (Ky.cells s v25 (Ky.clamp u)).toArray 81)) rfl (congrArg (fun l : List Value => Ent.blk b12 (.cells l.toArray 81)) (Ky.cells_set32 hl _ _ _)) ?_
      refine op_nil ?_
      refine ax_then ?_
      refine mx_done (by decide +kernel) (Sub.refl _) ?_
      refine ax_block ?_
      refine ax_then ?_
      refine At.regs (L' := [(2, _), (5, _), (6, _), (13, _), (14, _), (15, _), (16, _), (17, _), (18, _), (19, _), (20, _), (21, _), (22, _), (23, _), (24, _), (25, _), (26, _), (27, _)]) (.cons rfl (.cons rfl (.cons rfl (.cons rfl (.cons rfl (.cons rfl (.cons rfl (.cons rfl (.cons rfl (.cons rfl (.cons rfl (.cons rfl (.cons rfl (.cons rfl (.cons rfl (.cons rfl (.cons rfl (.cons rfl (.nil _))))))))))))))))))) ?_
      refine cd_region ?_
      refine st (ev_add64 rfl rfl (by omega) (by omega)) rfl rfl rfl ?_
      refine st (ev_move rfl) rfl rfl rfl ?_
      refine op_nil ?_
      refine ax_heq (i := 20) (v' := .own (v25) 39 32 (flat (Ky.leaves s (x.1 + 1)))) rfl (by rw [Ky.leaves_snoc]) ?_
      exact at_again ((x.1 + 1, v25)) (by show x.1 + 1 ≤ 16; omega) (by omega) (.cons rfl (.cons rfl (.cons rfl (.nil _)))) (.cons rfl (.cons rfl (.nil _))) (.cons rfl (.nil _))
    ·
      refine wo (i := 7) rfl ?_
      refine st_callv has46 rfl (fun w1 sw => public_any s x.1 w1 hl) rfl rfl ?_
      refine op_nil ?_
      refine ax_then ?_
      refine mx_two (i := 4) (j := 8) (by decide +kernel) (Sub.refl _) ?_ ?_
      ·
        refine wo (i := 4) rfl ?_
        refine st (ld_blk1 (h := 12) ty26 rfl rfl rfl (Ky.cells_32 hl _ _)) rfl rfl rfl ?_
        refine op_nil ?_
        refine ax_then ?_
        refine mx_one (i := 8) (by decide +kernel) (Sub.refl _) ?_
        refine wo (i := 8) rfl ?_
        refine st_bsh1 (h := 24) Try.underlying26 ty39 rfl (by first | assumption | omega) rfl rfl (fun b24 hu24 => ?_)
        refine op_nil ?_
        refine ax_then ?_
        refine mx_one (i := 9) (by decide +kernel) (Sub.refl _) ?_
        refine wo (i := 9) rfl ?_
        refine st_appendh (h := 20) Try.underlying26 Try.underlying26 ty39 rfl rfl rfl rfl (fun w1 sw => sw.own_rd (h := 24) rfl) (by assumption) (by assumption) (by first | omega | (simp only [List.length_append, List.length_cons, List.length_nil, List.length_set, List.length_replicate, List.length_take, List.length_drop, ints_length, wr_length, sha_len, node_len, recov_len, Ky.named_len, Ky.keyPub_len] <;> omega)) (by decide) rfl rfl (fun v25 hu25 => ?_)
        refine at_own_shape (h := 20) rfl (fun hs25 => ?_)
        refine op_nil ?_
        refine ax_then ?_
        refine mx (i := 10) rfl (by decide +kernel) (by decide +kernel) (by decide +kernel) rfl (fun w0 => ev_nilCheck rfl) rfl rfl (Sub.refl _) ?_
        refine mx (i := 11) rfl (by decide +kernel) (by decide +kernel) (by decide +kernel) rfl (fun w0 => ev_fieldAddr (b := _) Try.underlying81 (f := _) rfl ty26 (by decide) rfl) rfl rfl (Sub.refl _) ?_
        refine mx_one (i := 12) (by decide +kernel) (Sub.refl _) ?_
        refine wo (i := 12) rfl ?_
        refine st_store1 12 ty26 rfl rfl rfl hs25.2 (by rw [Ky.cells_len hl]; decide) rfl ?_
        refine at_heq (i := 12) (v' := .blk (b12) (.cells (Ky.cells s v25 (Ky.clamp u)).toArray 81)) rfl (congrArg (fun l : List Value => Ent.blk b12 (.cells l.toArray 81)) (Ky.cells_set32 hl _ _ _)) ?_
        refine op_nil ?_
        refine ax_then ?_
        refine mx_done (by decide +kernel) (Sub.refl _) ?_
        refine ax_block ?_
        refine ax_then ?_
        refine At.regs (L' := [(2, _), (5, _), (6, _), (13, _), (14, _), (15, _), (16, _), (17, _), (18, _), (19, _), (20, _), (21, _), (22, _), (23, _), (24, _), (25, _), (26, _), (27, _)]) (.cons rfl (.cons rfl (.cons rfl (.cons rfl (.cons rfl (.cons rfl (.cons rfl (.cons rfl (.cons rfl (.cons rfl (.cons rfl (.cons rfl (.cons rfl (.cons rfl (.cons rfl (.cons rfl (.cons rfl (.cons rfl (.nil _))))))))))))))))))) ?_
        refine cd_region ?_
        refine st (ev_add64 rfl rfl (by omega) (by omega)) rfl rfl rfl ?_
        refine st (ev_move rfl) rfl rfl rfl ?_
        refine op_nil ?_
        refine ax_heq (i := 20) (v' := .own (v25) 39 32 (flat (Ky.leaves s (x.1 + 1)))) rfl (by rw [Ky.leaves_snoc]) ?_
        exact at_again ((x.1 + 1, v25)) (by show x.1 + 1 ≤ 16; omega) (by omega) (.cons rfl (.cons rfl (.cons rfl (.nil _)))) (.cons rfl (.cons rfl (.nil _))) (.cons rfl (.nil _))
      ·
        refine wo (i := 8) rfl ?_
        refine st_bsh1 (h := 24) Try.underlying26 ty39 rfl (by first | assumption | omega) rfl rfl (fun b24 hu24 => ?_)
        refine op_nil ?_
        refine ax_then ?_
        refine mx_one (i := 4) (by decide +kernel) (Sub.refl _) ?_
        refine wo (i := 4) rfl ?_
        refine st (ld_blk1 (h := 12) ty26 rfl rfl rfl (Ky.cells_32 hl _ _)) rfl rfl rfl ?_
        refine op_nil ?_
        refine ax_then ?_
        refine mx_one (i := 9) (by decide +kernel) (Sub.refl _) ?_
        refine wo (i := 9) rfl ?_
        refine st_appendh (h := 20) Try.underlying26 Try.underlying26 ty39 rfl rfl rfl rfl (fun w1 sw => sw.own_rd (h := 24) rfl) (by assumption) (by assumption) (by first | omega | (simp only [List.length_append, List.length_cons, List.length_nil, List.length_set, List.length_replicate, List.length_take, List.length_drop, ints_length, wr_length, sha_len, node_len, recov_len, Ky.named_len, Ky.keyPub_len] <;> omega)) (by decide) rfl rfl (fun v25 hu25 => ?_)
        refine at_own_shape (h := 20) rfl (fun hs25 => ?_)
        refine op_nil ?_
        refine ax_then ?_
        refine mx (i := 10) rfl (by decide +kernel) (by decide +kernel) (by decide +kernel) rfl (fun w0 => ev_nilCheck rfl) rfl rfl (Sub.refl _) ?_
        refine mx (i := 11) rfl (by decide +kernel) (by decide +kernel) (by decide +kernel) rfl (fun w0 => ev_fieldAddr (b := _) Try.underlying81 (f := _) rfl ty26 (by decide) rfl) rfl rfl (Sub.refl _) ?_
        refine mx_one (i := 12) (by decide +kernel) (Sub.refl _) ?_
        refine wo (i := 12) rfl ?_
        refine st_store1 12 ty26 rfl rfl rfl hs25.2 (by rw [Ky.cells_len hl]; decide) rfl ?_
        refine at_heq (i := 12) (v' := .blk (b12) (.cells (Ky.cells s v25 (Ky.clamp u)).toArray 81)) rfl (congrArg (fun l : List Value => Ent.blk b12 (.cells l.toArray 81)) (Ky.cells_set32 hl _ _ _)) ?_
        refine op_nil ?_
        refine ax_then ?_
        refine mx_done (by decide +kernel) (Sub.refl _) ?_
        refine ax_block ?_
        refine ax_then ?_
        refine At.regs (L' := [(2, _), (5, _), (6, _), (13, _), (14, _), (15, _), (16, _), (17, _), (18, _), (19, _), (20, _), (21, _), (22, _), (23, _), (24, _), (25, _), (26, _), (27, _)]) (.cons rfl (.cons rfl (.cons rfl (.cons rfl (.cons rfl (.cons rfl (.cons rfl (.cons rfl (.cons rfl (.cons rfl (.cons rfl (.cons rfl (.cons rfl (.cons rfl (.cons rfl (.cons rfl (.cons rfl (.cons rfl (.nil _))))))))))))))))))) ?_
        refine cd_region ?_
        refine st (ev_add64 rfl rfl (by omega) (by omega)) rfl rfl rfl ?_
        refine st (ev_move rfl) rfl rfl rfl ?_
        refine op_nil ?_
        refine ax_heq (i := 20) (v' := .own (v25) 39 32 (flat (Ky.leaves s (x.1 + 1)))) rfl (by rw [Ky.leaves_snoc]) ?_
        exact at_again ((x.1 + 1, v25)) (by show x.1 + 1 ≤ 16; omega) (by omega) (.cons rfl (.cons rfl (.cons rfl (.nil _)))) (.cons rfl (.cons rfl (.nil _))) (.cons rfl (.nil _))
  ·
    obtain ⟨j, v⟩ := x
    dsimp only at hi hc14 ⊢
    obtain rfl : j = 16 := by omega
    refine cd_exit ?_
    refine ax_then_exit ?_
    refine ax_then_exit ?_
    refine ax_block_hit ?_
    refine ax_then ?_
    refine At.regs (L' := [(5, _)]) (.cons rfl (.nil _)) ?_
    refine cd_seq ?_
    refine cd_region ?_
    refine st (ev_move rfl) rfl rfl rfl ?_
    refine st (ev_assign rfl) rfl rfl rfl ?_
    refine op_nil ?_
    refine ax_then ?_
    refine At.regs (L' := [(4, _)]) (.cons rfl (.nil _)) ?_
    refine cd_ret ?_
    refine rt_tmp (.inl rfl) Try.results26 rfl ?_
    exact fun w1 sw => ⟨(b12, v), trivial, rfl, (sw.gives (N := [(12, _), (20, _)]) (.cons rfl (.cons rfl (.nil _)))).rn2 (by decide) 0 1⟩
set_option maxRecDepth 20000 in
set_option maxHeartbeats 1000000 in
theorem pubkey_any (b : Nat) (v : Value) (s : List Int) (n : Nat) (w : World) (hl : s.length = 32) (h : Lies w b 0 (Ky.cells s v (n : Int))) (h' : Rd w v 32 (flat (Ky.leaves s 16))) : Calls Try.prog 28 #[.pointer (some ⟨b, 0, none⟩)] w (PostV w (.agg (ints .u8 (Ky.keyPub s)).toArray)) := by
  refine calls_at (vs := [.pointer (some ⟨b, 0, none⟩)]) (X := []) (H := []) (F := [(21, .mem b 0 (Ky.cells s v (n : Int))), (20, .sl (v) 32 (flat (Ky.leaves s 16)))]) 12 Try.func28 rfl rfl rfl ((Sat.rd0 20 h').read 21 h off_nil) ?_
  refine cd_seq ?_
  refine cd_region ?_
  refine st_alloc (h := 2) ty39 rfl rfl rfl (fun b2 => ?_)
  refine op_nil ?_
  refine ax_then ?_
  refine At.regs (L' := [(0, _), (2, _)]) (.cons rfl (.cons rfl (.nil _))) ?_
  refine cd_seq ?_
  refine cd_seq ?_
  refine cd_region ?_
  refine st (ev_move rfl) rfl rfl rfl ?_
  refine st (ev_eql_ptr_nil Try.underlying49 rfl rfl) rfl rfl rfl ?_
  refine op_nil ?_
  refine ax_then ?_
  refine At.regs (L' := [(0, _), (2, _), (4, _)]) (.cons rfl (.cons rfl (.cons rfl (.nil _)))) ?_
  refine cd_false rfl ?_
  refine cd_skip ?_
  refine ax_then ?_
  refine At.regs (L' := [(0, _), (2, _)]) (.cons rfl (.cons rfl (.nil _))) ?_
  refine cd_seq ?_
  refine cd_region ?_
  refine st (ev_move rfl) rfl rfl rfl ?_
  refine st (ev_nilCheck rfl) rfl rfl rfl ?_
  refine st (ev_fieldAddr (b := _) Try.underlying81 (f := _) rfl ty26 (by decide) rfl) rfl rfl rfl ?_
  refine st (ld_mem1 (h := 21) ty26 rfl rfl rfl (Nat.zero_add _).symm (Ky.cells_32 hl _ _)) rfl rfl rfl ?_
  refine st_callv has51 rfl (fun w1 sw => root_any v (Ky.leaves s 16) w1 (Ky.leaves_h32 s 16) (by rw [Ky.leaves_len]; decide) (sw.sl_rd (h := 20) rfl)) rfl rfl ?_
  refine st_callv has50 rfl (fun w1 sw => named_any (root (Ky.leaves s 16)) w1 (root_len (Ky.leaves_h32 s 16))) rfl rfl ?_
  refine at_eq (i := 11) (v' := .agg (ints .u8 (Ky.keyPub s)).toArray) rfl rfl ?_
  refine st_store_all 2 ty39 rfl rfl rfl rfl (by first | omega | (simp only [List.length_append, List.length_cons, List.length_nil, List.length_set, List.length_replicate, List.length_take, List.length_drop, ints_length, wr_length, sha_len, node_len, recov_len, Ky.named_len, Ky.keyPub_len] <;> omega) | rfl) (ints_one _ _) (by first | omega | (simp only [List.length_append, List.length_cons, List.length_nil, List.length_set, List.length_replicate, List.length_take, List.length_drop, ints_length, wr_length, sha_len, node_len, recov_len, Ky.named_len, Ky.keyPub_len] <;> omega) | rfl) rfl ?_
  refine op_nil ?_
  refine ax_then ?_
  refine At.regs (L' := [(2, _)]) (.cons rfl (.nil _)) ?_
  refine cd_ret ?_
  refine rt_cell (h0 := 2) (.inl rfl) Try.results28 ty39 rfl rfl rfl (by first | omega | (simp only [List.length_append, List.length_cons, List.length_nil, List.length_set, List.length_replicate, List.length_take, List.length_drop, ints_length, wr_length, sha_len, node_len, recov_len, Ky.named_len, Ky.keyPub_len] <;> omega) | rfl) ?_
  exact fun w1 sw => ⟨rfl, sw.gives (.nil _)⟩
set_option maxRecDepth 20000 in
set_option maxHeartbeats 1000000 in
theorem used_any (b : Nat) (v : Value) (s : List Int) (n : Nat) (w : World) (hl : s.length = 32) (h : Lies w b 0 (Ky.cells s v (n : Int))) (h' : Rd w v 32 (flat (Ky.leaves s 16))) : Calls Try.prog 32 #[.pointer (some ⟨b, 0, none⟩)] w (PostV w (.int .i64 (n : Int))) := by
  refine calls_at (vs := [.pointer (some ⟨b, 0, none⟩)]) (X := []) (H := []) (F := [(21, .mem b 0 (Ky.cells s v (n : Int))), (20, .sl (v) 32 (flat (Ky.leaves s 16)))]) 9 Try.func32 rfl rfl rfl ((Sat.rd0 20 h').read 21 h off_nil) ?_
  refine cd_seq ?_
  refine cd_region ?_
  refine st (ev_assign rfl) rfl rfl rfl ?_
  refine op_nil ?_
  refine ax_then ?_
  refine At.regs (L' := [(0, _), (2, _)]) (.cons rfl (.cons rfl (.nil _))) ?_
  refine cd_seq ?_
  refine cd_seq ?_
  refine cd_region ?_
  refine st (ev_move rfl) rfl rfl rfl ?_
  refine st (ev_eql_ptr_nil Try.underlying49 rfl rfl) rfl rfl rfl ?_
  refine op_nil ?_
  refine ax_then ?_
  refine At.regs (L' := [(0, _), (2, _), (4, _)]) (.cons rfl (.cons rfl (.cons rfl (.nil _)))) ?_
  refine cd_false rfl ?_
  refine cd_skip ?_
  refine ax_then ?_
  refine At.regs (L' := [(0, _), (2, _)]) (.cons rfl (.cons rfl (.nil _))) ?_
  refine cd_seq ?_
  refine cd_region ?_
  refine st (ev_move rfl) rfl rfl rfl ?_
  refine st (ev_nilCheck rfl) rfl rfl rfl ?_
  refine st (ev_fieldAddr (b := _) Try.underlying81 (f := _) rfl ty3 (by decide) rfl) rfl rfl rfl ?_
  refine st (ld_mem1 (h := 21) ty3 rfl rfl rfl (Nat.zero_add _).symm (Ky.cells_33 hl _ _)) rfl rfl rfl ?_
  refine st (ev_assign rfl) rfl rfl rfl ?_
  refine op_nil ?_
  refine ax_then ?_
  refine At.regs (L' := [(2, _)]) (.cons rfl (.nil _)) ?_
  refine cd_ret ?_
  refine rt_tmp (.inl rfl) Try.results32 rfl ?_
  exact fun w1 sw => ⟨rfl, sw.gives (.nil _)⟩
set_option maxRecDepth 20000 in
set_option maxHeartbeats 1000000 in
theorem signk_used (b : Nat) (v : Value) (s : List Int) (n : Nat) (q : Value) (w : World) (hn : 16 ≤ n) (hl : s.length = 32) (h : Lies w b 0 (Ky.cells s v (n : Int))) (h' : Rd w v 32 (flat (Ky.leaves s 16))) : Calls Try.prog 29 #[.pointer (some ⟨b, 0, none⟩), q] w (PostV w (.tuple #[.agg (List.toArray [.int .i64 0, .slice none 0 0, .slice none 0 0]), .int .i64 3])) := by
  refine calls_at (vs := [.pointer (some ⟨b, 0, none⟩), q]) (X := []) (H := []) (F := [(21, .mem b 0 (Ky.cells s v (n : Int))), (20, .sl (v) 32 (flat (Ky.leaves s 16)))]) 44 Try.func29 rfl rfl rfl ((Sat.rd0 20 h').read 21 h off_nil) ?_
  refine cd_seq ?_
  refine cd_region ?_
  refine st_alloc (h := 4) ty42 rfl rfl rfl (fun b4 => ?_)
  refine st (ev_assign rfl) rfl rfl rfl ?_
  refine op_nil ?_
  refine ax_then ?_
  refine At.regs (L' := [(0, _), (1, _), (4, _), (5, _)]) (.cons rfl (.cons rfl (.cons rfl (.cons rfl (.nil _))))) ?_
  refine cd_seq ?_
  refine cd_block ?_
  refine cd_seq ?_
  refine cd_region ?_
  refine st (ev_move rfl) rfl rfl rfl ?_
  refine st (ev_eql_ptr_nil Try.underlying49 rfl rfl) rfl rfl rfl ?_
  refine st (ev_assign rfl) rfl rfl rfl ?_
  refine op_nil ?_
  refine ax_then ?_
  refine At.regs (L' := [(0, _), (1, _), (4, _), (5, _), (7, _)]) (.cons rfl (.cons rfl (.cons rfl (.cons rfl (.cons rfl (.nil _)))))) ?_
  refine cd_false rfl ?_
  refine cd_seq ?_
  refine cd_region ?_
  refine st (ev_move rfl) rfl rfl rfl ?_
  refine st (ev_nilCheck rfl) rfl rfl rfl ?_
  refine st (ev_fieldAddr (b := _) Try.underlying81 (f := _) rfl ty3 (by decide) rfl) rfl rfl rfl ?_
  refine st (ld_mem1 (h := 21) ty3 rfl rfl rfl (Nat.zero_add _).symm (Ky.cells_33 hl _ _)) rfl rfl rfl ?_
  refine st (ev_geq rfl rfl) rfl rfl rfl ?_
  refine st (ev_assign rfl) rfl rfl rfl ?_
  refine op_nil ?_
  refine ax_then ?_
  refine At.regs (L' := [(0, _), (1, _), (4, _), (5, _), (11, _)]) (.cons rfl (.cons rfl (.cons rfl (.cons rfl (.cons rfl (.nil _)))))) ?_
  refine cd_if_t rfl (by omega) ?_
  refine cd_seq ?_
  refine cd_region ?_
  refine st (ev_build_struct ty42 rfl pl42 rfl rfl) rfl rfl rfl ?_
  refine st_store_all 4 ty42 rfl rfl rfl rfl (by first | omega | (simp only [List.length_append, List.length_cons, List.length_nil, List.length_set, List.length_replicate, List.length_take, List.length_drop, ints_length, wr_length, sha_len, node_len, recov_len, Ky.named_len, Ky.keyPub_len] <;> omega) | rfl) (by first | (intro u hu; simp at hu; rcases hu with rfl | rfl <;> rfl) | (simp [Value.oneCell'])) (by first | omega | (simp only [List.length_append, List.length_cons, List.length_nil, List.length_set, List.length_replicate, List.length_take, List.length_drop, ints_length, wr_length, sha_len, node_len, recov_len, Ky.named_len, Ky.keyPub_len] <;> omega) | rfl) rfl ?_
  refine st (ev_assign rfl) rfl rfl rfl ?_
  refine op_nil ?_
  refine ax_then ?_
  refine At.regs (L' := [(0, _), (1, _), (4, _), (5, _)]) (.cons rfl (.cons rfl (.cons rfl (.cons rfl (.nil _))))) ?_
  refine cd_ret ?_
  refine ax_block_ret ?_
  refine ax_then_ret ?_
  refine rt_cell_tmp (h0 := 4) (.inl rfl) Try.results29 ty42 rfl rfl rfl (by first | omega | (simp only [List.length_append, List.length_cons, List.length_nil, List.length_set, List.length_replicate, List.length_take, List.length_drop, ints_length, wr_length, sha_len, node_len, recov_len, Ky.named_len, Ky.keyPub_len] <;> omega) | rfl) rfl ?_
  exact fun w1 sw => ⟨rfl, sw.gives (.nil _)⟩
set_option maxRecDepth 20000 in
set_option maxHeartbeats 4000000 in
theorem signk_any (b : Nat) (v q : Value) (s m : List Int) (n : Nat) (w : World) (hl : s.length = 32) (hn : n < 16) (hm : m.length ≤ 140737488352000) (hb : w.heap[b]? = some (.cells (Ky.cells s v (n : Int)).toArray 81)) (h : Rd w v 32 (flat (Ky.leaves s 16))) (hbv : FE.off b (.sl (v) 32 (flat (Ky.leaves s 16)))) (h' : Rd w q 1 (ints .u8 m)) (hbq : FE.off b (.sl (q) 1 (ints .u8 (m)))) : Calls Try.prog 29 #[.pointer (some ⟨b, 0, none⟩), q] w (Post (ι := Value × Value) w [b] (fun _ => True) (fun x => .tuple #[.agg (List.toArray [.int .i64 (n : Int), x.1, x.2]), .int .i64 0]) (fun x => [(0, .blk (b) (.cells (Ky.cells s v (((n + 1 : Nat)) : Int)).toArray 81)), (1, .own (x.1) 39 32 (flat (sign s n m 36))), (2, .own (x.2) 39 32 (flat (path (Ky.leaves s 16) n)))])) := by
  have hlu := Ky.leaves_h32 s 16
  have hll := Ky.leaves_len s 16
  refine calls_at (vs := [.pointer (some ⟨b, 0, none⟩), q]) (X := [b]) (H := [(0, .blk (b) (.cells (Ky.cells s v (n : Int)).toArray 81))]) (F := [(2, .sl (q) 1 (ints .u8 (m))), (1, .sl (v) 32 (flat (Ky.leaves s 16)))]) 44 Try.func29 rfl rfl rfl (((Sat.blkX 0 hb).readb (f := .sl (v) 32 (flat (Ky.leaves s 16))) 1 h hbv).readb (f := .sl (q) 1 (ints .u8 (m))) 2 h' hbq) ?_
  refine cd_seq ?_
  refine cd_region ?_
  refine st_alloc (h := 4) ty42 rfl rfl rfl (fun b4 => ?_)
  refine st (ev_assign rfl) rfl rfl rfl ?_
  refine op_nil ?_
  refine ax_then ?_
  refine At.regs (L' := [(0, _), (1, _), (4, _), (5, _)]) (.cons rfl (.cons rfl (.cons rfl (.cons rfl (.nil _))))) ?_
  refine cd_seq ?_
  refine cd_block ?_
  refine cd_seq ?_
  refine cd_region ?_
  refine st (ev_move rfl) rfl rfl rfl ?_
  refine st (ev_eql_ptr_nil Try.underlying49 rfl rfl) rfl rfl rfl ?_
  refine st (ev_assign rfl) rfl rfl rfl ?_
  refine op_nil ?_
  refine ax_then ?_
  refine At.regs (L' := [(0, _), (1, _), (4, _), (5, _), (7, _)]) (.cons rfl (.cons rfl (.cons rfl (.cons rfl (.cons rfl (.nil _)))))) ?_
  refine cd_false rfl ?_
  refine cd_seq ?_
  refine cd_region ?_
  refine st (ev_move rfl) rfl rfl rfl ?_
  refine st (ev_nilCheck rfl) rfl rfl rfl ?_
  refine st (ev_fieldAddr (b := _) Try.underlying81 (f := _) rfl ty3 (by decide) rfl) rfl rfl rfl ?_
  refine st (ld_blk1 (h := 0) ty3 rfl rfl rfl (Ky.cells_33 hl _ _)) rfl rfl rfl ?_
  refine st (ev_geq rfl rfl) rfl rfl rfl ?_
  refine st (ev_assign rfl) rfl rfl rfl ?_
  refine op_nil ?_
  refine ax_then ?_
  refine At.regs (L' := [(0, _), (1, _), (4, _), (5, _), (11, _)]) (.cons rfl (.cons rfl (.cons rfl (.cons rfl (.cons rfl (.nil _)))))) ?_
  refine cd_if_f rfl (by omega) ?_
  refine cd_skip ?_
  refine ax_block ?_
  refine ax_then ?_
  refine At.regs (L' := [(0, _), (1, _), (4, _), (5, _)]) (.cons rfl (.cons rfl (.cons rfl (.cons rfl (.nil _))))) ?_
  refine cd_seq ?_
  refine cd_region ?_
  refine st (ev_move rfl) rfl rfl rfl ?_
  refine st (ev_nilCheck rfl) rfl rfl rfl ?_
  refine st (ev_fieldAddr (b := _) Try.underlying81 (f := _) rfl ty3 (by decide) rfl) rfl rfl rfl ?_
  refine st (ld_blk1 (h := 0) ty3 rfl rfl rfl (Ky.cells_33 hl _ _)) rfl rfl rfl ?_
  refine st (ev_assign rfl) rfl rfl rfl ?_
  refine op_nil ?_
  refine ax_then ?_
  refine At.regs (L' := [(0, _), (1, _), (4, _), (5, _), (6, _)]) (.cons rfl (.cons rfl (.cons rfl (.cons rfl (.cons rfl (.nil _)))))) ?_
  refine cd_seq ?_
  refine cd_region ?_
  refine st (ev_move rfl) rfl rfl rfl ?_
  refine st (ev_nilCheck rfl) rfl rfl rfl ?_
  refine st (ev_fieldAddr (b := _) Try.underlying81 (f := _) rfl ty3 (by decide) rfl) rfl rfl rfl ?_
  refine st (ld_blk1 (h := 0) ty3 rfl rfl rfl (Ky.cells_33 hl _ _)) rfl rfl rfl ?_
  refine st (ev_add64 rfl rfl (by omega) (by omega)) rfl rfl rfl ?_
  refine st (ev_nilCheck rfl) rfl rfl rfl ?_
  refine st (ev_fieldAddr (b := _) Try.underlying81 (f := _) rfl ty3 (by decide) rfl) rfl rfl rfl ?_
  refine st_store1 0 ty3 rfl rfl rfl rfl (by rw [Ky.cells_len hl]; decide) rfl ?_
  refine at_heq (i := 0) (v' := .blk (b) (.cells (Ky.cells s v (((n + 1 : Nat)) : Int)).toArray 81)) rfl (congrArg (fun l : List Value => Ent.blk b (.cells l.toArray 81)) (Ky.cells_set33 hl _ _ _)) ?_
  refine op_nil ?_
  refine ax_then ?_
  refine At.regs (L' := [(0, _), (1, _), (4, _), (5, _), (6, _)]) (.cons rfl (.cons rfl (.cons rfl (.cons rfl (.cons rfl (.nil _)))))) ?_
  refine cd_seq ?_
  refine cd_mix hmix ?_
  refine mx (i := 0) rfl (by decide +kernel) (by decide +kernel) (by decide +kernel) rfl (fun w0 => ev_move rfl) rfl rfl (Sub.refl _) ?_
  refine mx (i := 1) rfl (by decide +kernel) (by decide +kernel) (by decide +kernel) rfl (fun w0 => ev_move rfl) rfl rfl (Sub.refl _) ?_
  refine mx (i := 2) rfl (by decide +kernel) (by decide +kernel) (by decide +kernel) rfl (fun w0 => ev_nilCheck rfl) rfl rfl (Sub.refl _) ?_
  refine mx (i := 3) rfl (by decide +kernel) (by decide +kernel) (by decide +kernel) rfl (fun w0 => ev_fieldAddr (b := _) Try.underlying81 (f := _) rfl ty39 (by decide) rfl) rfl rfl (Sub.refl _) ?_
  refine mx (i := 5) rfl (by decide +kernel) (by decide +kernel) (by decide +kernel) rfl (fun w0 => ev_move rfl) rfl rfl (Sub.refl _) ?_
  refine mx (i := 6) rfl (by decide +kernel) (by decide +kernel) (by decide +kernel) rfl (fun w0 => ev_move rfl) rfl rfl (Sub.refl _) ?_
  refine mx (i := 8) rfl (by decide +kernel) (by decide +kernel) (by decide +kernel) rfl (fun w0 => ev_move rfl) rfl rfl (Sub.refl _) ?_
  refine mx (i := 9) rfl (by decide +kernel) (by decide +kernel) (by decide +kernel) rfl (fun w0 => ev_nilCheck rfl) rfl rfl (Sub.refl _) ?_
  refine mx (i := 10) rfl (by decide +kernel) (by decide +kernel) (by decide +kernel) rfl (fun w0 => ev_fieldAddr (b := _) Try.underlying81 (f := _) rfl ty26 (by decide) rfl) rfl rfl (Sub.refl _) ?_
  refine mx (i := 12) rfl (by decide +kernel) (by decide +kernel) (by decide +kernel) rfl (fun w0 => ev_move rfl) rfl rfl (Sub.refl _) ?_
  refine mx_two (i := 4) (j := 11) (by decide +kernel) (Sub.refl _) ?_ ?_
  ·
    refine wo (i := 4) rfl ?_
    refine st (ld_blk (h := 0) ty39 rfl rfl rfl (by rw [Ky.cells_len hl]; decide)) rfl rfl rfl ?_
    refine at_eq (i := 33) (v' := .agg (ints .u8 (s)).toArray) rfl (congrArg (fun x => Value.agg (List.toArray x)) (Ky.cells_seed hl _ _)) ?_
    refine op_nil ?_
    refine ax_then ?_
    refine mx_two (i := 7) (j := 11) (by decide +kernel) (Sub.refl _) ?_ ?_
    ·
      refine wo (i := 7) rfl ?_
      refine st_call has52 rfl (fun w1 sw => rn 36 (sign_any s n q m w1 (by first | rfl | assumption) (by first | decide | omega) (sw.sl_rd (h := 2) rfl))) nil_all rfl rfl (fun v36 _ => ?_)
      have hsu36 := sign_h32 s n m 36
      have hsn36 := sign_len s n m 36
      refine at_own_shape (h := 36) rfl (fun hs36 => ?_)
      refine op_nil ?_
      refine ax_then ?_
      refine mx_one (i := 11) (by decide +kernel) (Sub.refl _) ?_
      refine wo (i := 11) rfl ?_
      refine st (ld_blk1 (h := 0) ty26 rfl rfl rfl (Ky.cells_32 hl _ _)) rfl rfl rfl ?_
      refine op_nil ?_
      refine ax_then ?_
      refine mx_one (i := 13) (by decide +kernel) (Sub.refl _) ?_
      refine wo (i := 13) rfl ?_
      refine st_call has53 rfl (fun w1 sw => rn 42 (path_any v (Ky.leaves s 16) (n : Int) w1 hlu (by rw [hll]; decide) (by omega) (sw.sl_rd (h := 1) rfl))) nil_all rfl rfl (fun v42 _ => ?_)
      refine at_own_shape (h := 42) rfl (fun hs42 => ?_)
      refine op_nil ?_
      refine ax_then ?_
      refine mx (i := 14) rfl (by decide +kernel) (by decide +kernel) (by decide +kernel) rfl (fun w0 => ev_build_struct ty42 rfl pl42 rfl ((fill_put (i := 0) (off := 0) (n := 1) (vs := [.int .i64 (n : Int)]) rfl rfl rfl (Nat.le_of_ble_eq_true rfl)).trans ((fill_put (i := 1) (off := 1) (n := 1) (vs := [v36]) rfl hs36.1 rfl (Nat.le_of_ble_eq_true rfl)).trans ((fill_put (i := 2) (off := 2) (n := 1) (vs := [v42]) rfl hs42.1 rfl (Nat.le_of_ble_eq_true rfl)).trans fill_nil)))) rfl rfl (Sub.refl _) ?_
      refine at_eq (i := 43) (v' := .agg (List.toArray [.int .i64 (n : Int), v36, v42])) rfl rfl ?_
      refine mx_one (i := 15) (by decide +kernel) (Sub.refl _) ?_
      refine wo (i := 15) rfl ?_
      refine st_store_all 4 ty42 rfl rfl rfl rfl rfl (by intro u hu; simp at hu; rcases hu with rfl | rfl | rfl; rfl; exact hs36.2; exact hs42.2) rfl rfl ?_
      refine op_nil ?_
      refine ax_then ?_
      refine mx (i := 16) rfl (by decide +kernel) (by decide +kernel) (by decide +kernel) rfl (fun w0 => ev_assign rfl) rfl rfl (Sub.refl _) ?_
      refine mx_done (by decide +kernel) (Sub.refl _) ?_
      refine ax_then ?_
      refine At.regs (L' := [(4, _), (5, _)]) (.cons rfl (.cons rfl (.nil _))) ?_
      refine cd_ret ?_
      refine rt_cell_tmp (h0 := 4) (.inl rfl) Try.results29 ty42 rfl rfl rfl (by first | omega | (simp only [List.length_append, List.length_cons, List.length_nil, List.length_set, List.length_replicate, List.length_take, List.length_drop, ints_length, wr_length, sha_len, node_len, recov_len, Ky.named_len, Ky.keyPub_len] <;> omega) | rfl) rfl ?_
      exact fun w1 sw => ⟨(v36, v42), trivial, rfl, (sw.gives (N := [(0, _), (36, _), (42, _)]) (.cons rfl (.cons rfl (.cons rfl (.nil _))))).rn3 (by decide) (by decide) (by decide) 0 1 2⟩
    ·
      refine wo (i := 11) rfl ?_
      refine st (ld_blk1 (h := 0) ty26 rfl rfl rfl (Ky.cells_32 hl _ _)) rfl rfl rfl ?_
      refine op_nil ?_
      refine ax_then ?_
      refine mx_one (i := 7) (by decide +kernel) (Sub.refl _) ?_
      refine wo (i := 7) rfl ?_
      refine st_call has52 rfl (fun w1 sw => rn 36 (sign_any s n q m w1 (by first | rfl | assumption) (by first | decide | omega) (sw.sl_rd (h := 2) rfl))) nil_all rfl rfl (fun v36 _ => ?_)
      have hsu36 := sign_h32 s n m 36
      have hsn36 := sign_len s n m 36
      refine at_own_shape (h := 36) rfl (fun hs36 => ?_)
      refine op_nil ?_
      refine ax_then ?_
      refine mx_one (i := 13) (by decide +kernel) (Sub.refl _) ?_
      refine wo (i := 13) rfl ?_
      refine st_call has53 rfl (fun w1 sw => rn 42 (path_any v (Ky.leaves s 16) (n : Int) w1 hlu (by rw [hll]; decide) (by omega) (sw.sl_rd (h := 1) rfl))) nil_all rfl rfl (fun v42 _ => ?_)
      refine at_own_shape (h := 42) rfl (fun hs42 => ?_)
      refine op_nil ?_
      refine ax_then ?_
      refine mx (i := 14) rfl (by decide +kernel) (by decide +kernel) (by decide +kernel) rfl (fun w0 => ev_build_struct ty42 rfl pl42 rfl ((fill_put (i := 0) (off := 0) (n := 1) (vs := [.int .i64 (n : Int)]) rfl rfl rfl (Nat.le_of_ble_eq_true rfl)).trans ((fill_put (i := 1) (off := 1) (n := 1) (vs := [v36]) rfl hs36.1 rfl (Nat.le_of_ble_eq_true rfl)).trans ((fill_put (i := 2) (off := 2) (n := 1) (vs := [v42]) rfl hs42.1 rfl (Nat.le_of_ble_eq_true rfl)).trans fill_nil)))) rfl rfl (Sub.refl _) ?_
      refine at_eq (i := 43) (v' := .agg (List.toArray [.int .i64 (n : Int), v36, v42])) rfl rfl ?_
      refine mx_one (i := 15) (by decide +kernel) (Sub.refl _) ?_
      refine wo (i := 15) rfl ?_
      refine st_store_all 4 ty42 rfl rfl rfl rfl rfl (by intro u hu; simp at hu; rcases hu with rfl | rfl | rfl; rfl; exact hs36.2; exact hs42.2) rfl rfl ?_
      refine op_nil ?_
      refine ax_then ?_
      refine mx (i := 16) rfl (by decide +kernel) (by decide +kernel) (by decide +kernel) rfl (fun w0 => ev_assign rfl) rfl rfl (Sub.refl _) ?_
      refine mx_done (by decide +kernel) (Sub.refl _) ?_
      refine ax_then ?_
      refine At.regs (L' := [(4, _), (5, _)]) (.cons rfl (.cons rfl (.nil _))) ?_
      refine cd_ret ?_
      refine rt_cell_tmp (h0 := 4) (.inl rfl) Try.results29 ty42 rfl rfl rfl (by first | omega | (simp only [List.length_append, List.length_cons, List.length_nil, List.length_set, List.length_replicate, List.length_take, List.length_drop, ints_length, wr_length, sha_len, node_len, recov_len, Ky.named_len, Ky.keyPub_len] <;> omega) | rfl) rfl ?_
      exact fun w1 sw => ⟨(v36, v42), trivial, rfl, (sw.gives (N := [(0, _), (36, _), (42, _)]) (.cons rfl (.cons rfl (.cons rfl (.nil _))))).rn3 (by decide) (by decide) (by decide) 0 1 2⟩
  ·
    refine wo (i := 11) rfl ?_
    refine st (ld_blk1 (h := 0) ty26 rfl rfl rfl (Ky.cells_32 hl _ _)) rfl rfl rfl ?_
    refine op_nil ?_
    refine ax_then ?_
    refine mx_one (i := 4) (by decide +kernel) (Sub.refl _) ?_
    refine wo (i := 4) rfl ?_
    refine st (ld_blk (h := 0) ty39 rfl rfl rfl (by rw [Ky.cells_len hl]; decide)) rfl rfl rfl ?_
    refine at_eq (i := 33) (v' := .agg (ints .u8 (s)).toArray) rfl (congrArg (fun x => Value.agg (List.toArray x)) (Ky.cells_seed hl _ _)) ?_
    refine op_nil ?_
    refine ax_then ?_
    refine mx_one (i := 7) (by decide +kernel) (Sub.refl _) ?_
    refine wo (i := 7) rfl ?_
    refine st_call has52 rfl (fun w1 sw => rn 36 (sign_any s n q m w1 (by first | rfl | assumption) (by first | decide | omega) (sw.sl_rd (h := 2) rfl))) nil_all rfl rfl (fun v36 _ => ?_)
    have hsu36 := sign_h32 s n m 36
    have hsn36 := sign_len s n m 36
    refine at_own_shape (h := 36) rfl (fun hs36 => ?_)
    refine op_nil ?_
    refine ax_then ?_
    refine mx_one (i := 13) (by decide +kernel) (Sub.refl _) ?_
    refine wo (i := 13) rfl ?_
    refine st_call has53 rfl (fun w1 sw => rn 42 (path_any v (Ky.leaves s 16) (n : Int) w1 hlu (by rw [hll]; decide) (by omega) (sw.sl_rd (h := 1) rfl))) nil_all rfl rfl (fun v42 _ => ?_)
    refine at_own_shape (h := 42) rfl (fun hs42 => ?_)
    refine op_nil ?_
    refine ax_then ?_
    refine mx (i := 14) rfl (by decide +kernel) (by decide +kernel) (by decide +kernel) rfl (fun w0 => ev_build_struct ty42 rfl pl42 rfl ((fill_put (i := 0) (off := 0) (n := 1) (vs := [.int .i64 (n : Int)]) rfl rfl rfl (Nat.le_of_ble_eq_true rfl)).trans ((fill_put (i := 1) (off := 1) (n := 1) (vs := [v36]) rfl hs36.1 rfl (Nat.le_of_ble_eq_true rfl)).trans ((fill_put (i := 2) (off := 2) (n := 1) (vs := [v42]) rfl hs42.1 rfl (Nat.le_of_ble_eq_true rfl)).trans fill_nil)))) rfl rfl (Sub.refl _) ?_
    refine at_eq (i := 43) (v' := .agg (List.toArray [.int .i64 (n : Int), v36, v42])) rfl rfl ?_
    refine mx_one (i := 15) (by decide +kernel) (Sub.refl _) ?_
    refine wo (i := 15) rfl ?_
    refine st_store_all 4 ty42 rfl rfl rfl rfl rfl (by intro u hu; simp at hu; rcases hu with rfl | rfl | rfl; rfl; exact hs36.2; exact hs42.2) rfl rfl ?_
    refine op_nil ?_
    refine ax_then ?_
    refine mx (i := 16) rfl (by decide +kernel) (by decide +kernel) (by decide +kernel) rfl (fun w0 => ev_assign rfl) rfl rfl (Sub.refl _) ?_
    refine mx_done (by decide +kernel) (Sub.refl _) ?_
    refine ax_then ?_
    refine At.regs (L' := [(4, _), (5, _)]) (.cons rfl (.cons rfl (.nil _))) ?_
    refine cd_ret ?_
    refine rt_cell_tmp (h0 := 4) (.inl rfl) Try.results29 ty42 rfl rfl rfl (by first | omega | (simp only [List.length_append, List.length_cons, List.length_nil, List.length_set, List.length_replicate, List.length_take, List.length_drop, ints_length, wr_length, sha_len, node_len, recov_len, Ky.named_len, Ky.keyPub_len] <;> omega) | rfl) rfl ?_
    exact fun w1 sw => ⟨(v36, v42), trivial, rfl, (sw.gives (N := [(0, _), (36, _), (42, _)]) (.cons rfl (.cons rfl (.cons rfl (.nil _))))).rn3 (by decide) (by decide) (by decide) 0 1 2⟩
end Go.Proofs.Yteedclmcgifmpaa

namespace Go.Proofs.Yteedclmcgifmpaa
open Go Go.RowKit Fw
open Sha
open Ots
open Mk
set_option linter.unusedVariables false
set_option linter.unusedSimpArgs false
set_option maxRecDepth 20000 in
set_option maxHeartbeats 1000000 in
theorem known5_any (w : World) : Calls Try.prog 33 #[] w (PostV w (.bool true)) := by
  refine calls_at (vs := []) (X := []) (H := []) (F := []) 20 Try.func33 rfl rfl rfl (Sat.start0 w) ?_
  refine cd_seq ?_
  refine cd_region ?_
  refine st (ev_assign rfl) rfl rfl rfl ?_
  refine op_nil ?_
  refine ax_then ?_
  refine At.regs (L' := [(0, _)]) (.cons rfl (.nil _)) ?_
  refine cd_seq ?_
  refine cd_region ?_
  refine st (ev_build_array ty39 rfl ty5 rfl rfl) rfl rfl rfl ?_
  refine at_eq (i := 4) (v' := .agg (ints .u8 ((1 :: List.replicate 31 0))).toArray) rfl (by kernel_rfl) ?_
  refine st_call has26 rfl (fun w1 sw => rn2 5 20 (new_any (1 :: List.replicate 31 0) 16 w1 rfl)) nil_all rfl rfl (fun x5 _ => ?_)
  obtain ⟨b5, lv5⟩ := x5
  dsimp only
  refine at_heq (i := 5) (v' := .blk (b5) (.cells (Ky.cells (1 :: List.replicate 31 0) lv5 (((16 : Nat) : Int))).toArray 81)) rfl (by rw [show Ky.clamp 16 = (((16 : Nat) : Int)) from rfl]) ?_
  refine st (ev_assign rfl) rfl rfl rfl ?_
  refine op_nil ?_
  refine ax_then ?_
  refine At.regs (L' := [(0, _), (1, _)]) (.cons rfl (.cons rfl (.nil _))) ?_
  refine cd_seq ?_
  refine cd_seq ?_
  refine cd_region ?_
  refine st (ev_move rfl) rfl rfl rfl ?_
  refine st (ev_eql_ptr_nil Try.underlying49 rfl rfl) rfl rfl rfl ?_
  refine op_nil ?_
  refine ax_then ?_
  refine At.regs (L' := [(0, _), (1, _), (7, _)]) (.cons rfl (.cons rfl (.cons rfl (.nil _)))) ?_
  refine cd_false rfl ?_
  refine cd_skip ?_
  refine ax_then ?_
  refine At.regs (L' := [(0, _), (1, _)]) (.cons rfl (.cons rfl (.nil _))) ?_
  refine cd_seq ?_
  refine cd_region ?_
  refine st (ev_move rfl) rfl rfl rfl ?_
  refine st_callv has29 rfl (fun w1 sw => signk_used b5 lv5 (1 :: List.replicate 31 0) 16 (.slice none 0 0) w1 (by decide) rfl (lies_blk (sw.blk_eq (h := 5) rfl)) (sw.own_rd (h := 20) rfl)) rfl rfl ?_
  refine st (ev_move rfl) rfl rfl rfl ?_
  refine st (ev_extract rfl rfl) rfl rfl rfl ?_
  refine st (ev_extract rfl rfl) rfl rfl rfl ?_
  refine st_alloc (h := 2) ty42 rfl rfl rfl (fun b2 => ?_)
  refine st_store_all 2 ty42 rfl rfl rfl rfl (by first | omega | (simp only [List.length_append, List.length_cons, List.length_nil, List.length_set, List.length_replicate, List.length_take, List.length_drop, ints_length, wr_length, sha_len, node_len, recov_len, Ky.named_len, Ky.keyPub_len] <;> omega) | rfl) (by first | (intro u hu; simp at hu; rcases hu with rfl | rfl <;> rfl) | (simp [Value.oneCell'])) (by first | omega | (simp only [List.length_append, List.length_cons, List.length_nil, List.length_set, List.length_replicate, List.length_take, List.length_drop, ints_length, wr_length, sha_len, node_len, recov_len, Ky.named_len, Ky.keyPub_len] <;> omega) | rfl) rfl ?_
  refine st (ev_assign rfl) rfl rfl rfl ?_
  refine op_nil ?_
  refine ax_then ?_
  refine At.regs (L' := [(0, _), (1, _), (3, _)]) (.cons rfl (.cons rfl (.cons rfl (.nil _)))) ?_
  refine cd_seq ?_
  refine cd_region ?_
  refine st (ev_move rfl) rfl rfl rfl ?_
  refine st (ev_eql rfl rfl) rfl rfl rfl ?_
  refine st (ev_move rfl) rfl rfl rfl ?_
  refine at_eq (i := 15) (v' := .bool true) rfl (by rfl) ?_
  refine st (ev_move rfl) rfl rfl rfl ?_
  refine st_callv has32 rfl (fun w1 sw => used_any b5 lv5 (1 :: List.replicate 31 0) 16 w1 rfl (lies_blk (sw.blk_eq (h := 5) rfl)) (sw.own_rd (h := 20) rfl)) rfl rfl ?_
  refine st (ev_eql rfl rfl) rfl rfl rfl ?_
  refine st (ev_pick_t rfl rfl) rfl rfl rfl ?_
  refine st (ev_assign rfl) rfl rfl rfl ?_
  refine op_nil ?_
  refine ax_then ?_
  refine At.regs (L' := [(0, _)]) (.cons rfl (.nil _)) ?_
  refine cd_ret ?_
  refine rt_tmp (.inl rfl) Try.results33 rfl ?_
  exact fun w1 sw => ⟨rfl, sw.gives (.nil _)⟩
end Go.Proofs.Yteedclmcgifmpaa

namespace Go.Proofs.Yteedclmcgifmpaa
open Go Go.RowKit Fw
open Sha
open Ots
open Mk
set_option linter.unusedVariables false
set_option linter.unusedSimpArgs false
theorem rkey_new {s : List Int} (hl : s.length = 32) (n : Int) : wr (wr (ints .u8 (List.replicate 32 0) ++ ([.slice none 0 0] ++ (ints .u8 (List.replicate 32 0) ++ [.int .i64 0]))) 0 (ints .u8 s)) 65 [.int .i64 n] = Ky.rcells s (.slice none 0 0) (List.replicate 32 0) n := by
  have h1 : wr (ints .u8 (List.replicate 32 0) ++ ([Value.slice none 0 0] ++ (ints .u8 (List.replicate 32 0) ++ [.int .i64 0]))) 0 (ints .u8 s) = Ky.rcells s (.slice none 0 0) (List.replicate 32 0) 0 := by
    rw [wr, List.take_zero, List.nil_append, ints_length, hl, Nat.zero_add, List.drop_left' (by simp [ints_length])]
    rfl
  rw [h1, wr_one (by rw [Ky.rcells_len hl (by simp)]; decide), Ky.rcells_set65 hl (by simp)]
set_option maxRecDepth 20000 in
set_option maxHeartbeats 4000000 in
theorem rnew_any (s : List Int) (u : Int) (w : World) (hl : s.length = 32) : Calls Try.prog 27 #[.agg (ints .u8 (s)).toArray, .int .i64 u] w (Post (ι := Nat × Value) w [] (fun _ => True) (fun x => .pointer (some ⟨x.1, 0, none⟩)) (fun x => [(0, .blk (x.1) (.cells (Ky.rcells s x.2 (Ky.keyPub s) (Ky.clamp u)).toArray 55)), (1, .own (x.2) 39 32 (flat (Ky.leaves s 16)))])) := by
  refine calls_at (vs := [.agg (ints .u8 (s)).toArray, .int .i64 u]) (X := []) (H := []) (F := []) 39 Try.func27 rfl rfl rfl (Sat.start0 w) ?_
  refine cd_seq ?_
  refine cd_region ?_
  refine st_box (h := 2) rfl rfl rfl rfl (fun b2 => ?_)
  refine st (ev_assign rfl) rfl rfl rfl ?_
  refine op_nil ?_
  refine ax_then ?_
  refine At.regs (L' := [(1, _), (2, _), (4, _)]) (.cons rfl (.cons rfl (.cons rfl (.nil _)))) ?_
  refine cd_seq ?_
  refine cd_region ?_
  refine st (ld_blk_all (h := 2) ty39 rfl rfl rfl (by first | omega | (simp only [List.length_append, List.length_cons, List.length_nil, List.length_set, List.length_replicate, List.length_take, List.length_drop, ints_length, wr_length, sha_len, node_len, recov_len, Ky.named_len, Ky.keyPub_len] <;> omega) | rfl)) rfl rfl rfl ?_
  refine st (ev_move rfl) rfl rfl rfl ?_
  refine st (ev_max2 rfl rfl) rfl rfl rfl ?_
  refine st (ev_min2 rfl rfl) rfl rfl rfl ?_
  refine at_eq (i := 10) (v' := .int .i64 (Ky.clamp u)) rfl rfl ?_
  refine st (ev_build_struct ty55 rfl pl55 rfl ((fill_put (i := 0) (off := 0) (n := 32) (vs := ints .u8 s) rfl rfl (by rw [ints_length, hl]) (Nat.le_of_ble_eq_true rfl)).trans ((fill_put (i := 3) (off := 65) (n := 1) (vs := [.int .i64 (Ky.clamp u)]) rfl rfl rfl (by rw [wr_length (by rw [ints_length, hl]; exact Nat.le_of_ble_eq_true rfl)]; exact Nat.le_of_ble_eq_true rfl)).trans fill_nil))) rfl rfl rfl ?_
  refine at_eq (i := 11) (v' := .agg (Ky.rcells s (.slice none 0 0) (List.replicate 32 0) (Ky.clamp u)).toArray) rfl (congrArg (fun x => Value.agg (List.toArray x)) (rkey_new hl _)) ?_
  refine st_box (h := 12) rfl rfl rfl rfl (fun b12 => ?_)
  refine st (ev_assign rfl) rfl rfl rfl ?_
  refine op_nil ?_
  refine ax_then ?_
  refine At.regs (L' := [(2, _), (4, _), (5, _)]) (.cons rfl (.cons rfl (.cons rfl (.nil _)))) ?_
  refine cd_seq ?_
  refine cd_seq ?_
  refine cd_region ?_
  refine st (ev_assign rfl) rfl rfl rfl ?_
  refine op_nil ?_
  refine ax_then ?_
  refine At.regs (L' := [(2, _), (4, _), (5, _), (6, _)]) (.cons rfl (.cons rfl (.cons rfl (.cons rfl (.nil _))))) ?_
  refine cd_block ?_
  refine at_freeze_blk (h := 2) (H' := [(12, _)]) 2 rfl (.cons rfl (.nil _)) rfl ?_
  refine at_own_nil 20 39 32 ?_
  refine at_heq (i := 20) (v' := .own (.slice none 0 0) 39 32 (flat (Ky.leaves s 0))) rfl rfl ?_
  refine cd_loop (ι := Nat × Value) (fun x => x.1 ≤ 16) (fun x => 16 - x.1)
      (fun x => [(2, .pointer (some ⟨b2, 0, none⟩)), (5, .pointer (some ⟨b12, 0, none⟩)), (6, .int .i64 (x.1 : Int))])
      (fun x => [(12, .blk (b12) (.cells (Ky.rcells s x.2 (List.replicate 32 0) (Ky.clamp u)).toArray 55)), (20, .own (x.2) 39 32 (flat (Ky.leaves s x.1)))])
      (fun x => [(2, .mem b2 0 (ints .u8 s))])
      (0, .slice none 0 0) (by omega) (.cons rfl (.cons rfl (.cons rfl (.nil _)))) (.cons rfl (.cons rfl (.nil _))) (.cons rfl (.nil _)) (fun x hi => ?_)
  have hlu := Ky.leaves_h32 s x.1
  have hln := Ky.leaves_len s x.1
  have hpl : (pub s x.1).length = 32 := sha_len _
  refine cd_seq ?_
  refine cd_seq ?_
  refine cd_region ?_
  refine st (ev_move rfl) rfl rfl rfl ?_
  refine st (ev_lss rfl rfl) rfl rfl rfl ?_
  refine op_nil ?_
  refine ax_then ?_
  refine At.regs (L' := [(2, _), (5, _), (6, _), (13, _), (14, _)]) (.cons rfl (.cons rfl (.cons rfl (.cons rfl (.cons rfl (.nil _)))))) ?_
  refine cd_if rfl (fun hc14 => ?_) (fun hc14 => ?_)
  ·
    refine cd_skip ?_
    refine ax_then ?_
    refine At.regs (L' := [(2, _), (5, _), (6, _), (13, _), (14, _)]) (.cons rfl (.cons rfl (.cons rfl (.cons rfl (.cons rfl (.nil _)))))) ?_
    refine cd_seq ?_
    refine cd_block ?_
    refine cd_mix hmix ?_
    refine mx (i := 0) rfl (by decide +kernel) (by decide +kernel) (by decide +kernel) rfl (fun w0 => ev_move rfl) rfl rfl (Sub.refl _) ?_
    refine mx (i := 1) rfl (by decide +kernel) (by decide +kernel) (by decide +kernel) rfl (fun w0 => ev_move rfl) rfl rfl (Sub.refl _) ?_
    refine mx (i := 2) rfl (by decide +kernel) (by decide +kernel) (by decide +kernel) rfl (fun w0 => ev_nilCheck rfl) rfl rfl (Sub.refl _) ?_
    refine mx (i := 3) rfl (by decide +kernel) (by decide +kernel) (by decide +kernel) rfl (fun w0 => ev_fieldAddr (b := _) Try.underlying55 (f := _) rfl ty26 (by decide) rfl) rfl rfl (Sub.refl _) ?_
    refine mx (i := 5) rfl (by decide +kernel) (by decide +kernel) (by decide +kernel) rfl (fun w0 => ld_mem_all (h := 2) ty39 rfl rfl rfl (by first | omega | (simp only [List.length_append, List.length_cons, List.length_nil, List.length_set, List.length_replicate, List.length_take, List.length_drop, ints_length, wr_length, sha_len, node_len, recov_len, Ky.named_len, Ky.keyPub_len] <;> omega) | rfl)) rfl rfl (Sub.refl _) ?_
    refine mx (i := 6) rfl (by decide +kernel) (by decide +kernel) (by decide +kernel) rfl (fun w0 => ev_move rfl) rfl rfl (Sub.refl _) ?_
    refine mx_two (i := 4) (j := 7) (by decide +kernel) (Sub.refl _) ?_ ?_
    ·
      refine wo (i := 4) rfl ?_
      refine st (ld_blk1 (h := 12) ty26 rfl rfl rfl (Ky.rcells_32 hl _ _)) rfl rfl rfl ?_
      refine op_nil ?_
      refine ax_then ?_
      refine mx_one (i := 7) (by decide +kernel) (Sub.refl _) ?_
      refine wo (i := 7) rfl ?_
      refine st_callv has47 rfl (fun w1 sw => rpublic_any s x.1 w1 hl) rfl rfl ?_
      refine op_nil ?_
      refine ax_then ?_
      refine mx_one (i := 8) (by decide +kernel) (Sub.refl _) ?_
      refine wo (i := 8) rfl ?_
      refine st_bsh1 (h := 25) Try.underlying26 ty39 rfl (by first | assumption | omega) rfl rfl (fun b25 hu25 => ?_)
      refine op_nil ?_
      refine ax_then ?_
      refine mx_one (i := 9) (by decide +kernel) (Sub.refl _) ?_
      refine wo (i := 9) rfl ?_
      refine st_appendh (h := 20) Try.underlying26 Try.underlying26 ty39 rfl rfl rfl rfl (fun w1 sw => sw.own_rd (h := 25) rfl) (by assumption) (by assumption) (by first | omega | (simp only [List.length_append, List.length_cons, List.length_nil, List.length_set, List.length_replicate, List.length_take, List.length_drop, ints_length, wr_length, sha_len, node_len, recov_len, Ky.named_len, Ky.keyPub_len] <;> omega)) (by decide) rfl rfl (fun v26 hu26 => ?_)
      refine at_own_shape (h := 20) rfl (fun hs26 => ?_)
      refine op_nil ?_
      refine ax_then ?_
      refine mx (i := 10) rfl (by decide +kernel) (by decide +kernel) (by decide +kernel) rfl (fun w0 => ev_nilCheck rfl) rfl rfl (Sub.refl _) ?_
      refine mx (i := 11) rfl (by decide +kernel) (by decide +kernel) (by decide +kernel) rfl (fun w0 => ev_fieldAddr (b := _) Try.underlying55 (f := _) rfl ty26 (by decide) rfl) rfl rfl (Sub.refl _) ?_
      refine mx_one (i := 12) (by decide +kernel) (Sub.refl _) ?_
      refine wo (i := 12) rfl ?_
      refine st_store1 12 ty26 rfl rfl rfl hs26.2 (by rw [Ky.rcells_len hl (by simp)]; decide) rfl ?_
      refine at_heq (i := 12) (v' := .blk (b12) (.cells (Ky.rcells s v26 (List.replicate 32 0) (Ky.clamp u)).toArray 55)) rfl (congrArg (fun l : List Value => Ent.blk b12 (.cells l.toArray 55)) (Ky.rcells_set32 hl _ _ _)) ?_
      refine op_nil ?_
      refine ax_then ?_
      refine mx_done (by decide +kernel) (Sub.refl _) ?_
      refine ax_block ?_
      refine ax_then ?_
      refine At.regs (L' := [(2, _), (5, _), (6, _), (13, _), (14, _), (17, _), (18, _), (19, _), (20, _), (21, _), (22, _), (23, _), (24, _), (25, _), (26, _), (27, _), (28, _)]) (.cons rfl (.cons rfl (.cons rfl (.cons rfl (.cons rfl (.cons rfl (.cons rfl (.cons rfl (.cons rfl (.cons rfl (.cons rfl (.cons rfl (.cons rfl (.cons rfl (.cons rfl (.cons rfl (.cons rfl (.nil _)))))))))))))))))) ?_
      refine cd_region ?_
      refine st (ev_move rfl) rfl rfl rfl ?_
      refine st (ev_add64 rfl rfl (by omega) (by omega)) rfl rfl rfl ?_
      refine st (ev_assign rfl) rfl rfl rfl ?_
      refine op_nil ?_
      refine ax_heq (i := 20) (v' := .own (v26) 39 32 (flat (Ky.leaves s (x.1 + 1)))) rfl (by rw [Ky.leaves_snoc]) ?_
      exact at_again ((x.1 + 1, v26)) (by show x.1 + 1 ≤ 16; omega) (by omega) (.cons rfl (.cons rfl (.cons rfl (.nil _)))) (.cons rfl (.cons rfl (.nil _))) (.cons rfl (.nil _))
    ·
      refine wo (i := 7) rfl ?_
      refine st_callv has47 rfl (fun w1 sw => rpublic_any s x.1 w1 hl) rfl rfl ?_
      refine op_nil ?_
      refine ax_then ?_
      refine mx_two (i := 4) (j := 8) (by decide +kernel) (Sub.refl _) ?_ ?_
      ·
        refine wo (i := 4) rfl ?_
        refine st (ld_blk1 (h := 12) ty26 rfl rfl rfl (Ky.rcells_32 hl _ _)) rfl rfl rfl ?_
        refine op_nil ?_
        refine ax_then ?_
        refine mx_one (i := 8) (by decide +kernel) (Sub.refl _) ?_
        refine wo (i := 8) rfl ?_
        refine st_bsh1 (h := 25) Try.underlying26 ty39 rfl (by first | assumption | omega) rfl rfl (fun b25 hu25 => ?_)
        refine op_nil ?_
        refine ax_then ?_
        refine mx_one (i := 9) (by decide +kernel) (Sub.refl _) ?_
        refine wo (i := 9) rfl ?_
        refine st_appendh (h := 20) Try.underlying26 Try.underlying26 ty39 rfl rfl rfl rfl (fun w1 sw => sw.own_rd (h := 25) rfl) (by assumption) (by assumption) (by first | omega | (simp only [List.length_append, List.length_cons, List.length_nil, List.length_set, List.length_replicate, List.length_take, List.length_drop, ints_length, wr_length, sha_len, node_len, recov_len, Ky.named_len, Ky.keyPub_len] <;> omega)) (by decide) rfl rfl (fun v26 hu26 => ?_)
        refine at_own_shape (h := 20) rfl (fun hs26 => ?_)
        refine op_nil ?_
        refine ax_then ?_
        refine mx (i := 10) rfl (by decide +kernel) (by decide +kernel) (by decide +kernel) rfl (fun w0 => ev_nilCheck rfl) rfl rfl (Sub.refl _) ?_
        refine mx (i := 11) rfl (by decide +kernel) (by decide +kernel) (by decide +kernel) rfl (fun w0 => ev_fieldAddr (b := _) Try.underlying55 (f := _) rfl ty26 (by decide) rfl) rfl rfl (Sub.refl _) ?_
        refine mx_one (i := 12) (by decide +kernel) (Sub.refl _) ?_
        refine wo (i := 12) rfl ?_
        refine st_store1 12 ty26 rfl rfl rfl hs26.2 (by rw [Ky.rcells_len hl (by simp)]; decide) rfl ?_
        refine at_heq (i := 12) (v' := .blk (b12) (.cells (Ky.rcells s v26 (List.replicate 32 0) (Ky.clamp u)).toArray 55)) rfl (congrArg (fun l : List Value => Ent.blk b12 (.cells l.toArray 55)) (Ky.rcells_set32 hl _ _ _)) ?_
        refine op_nil ?_
        refine ax_then ?_
        refine mx_done (by decide +kernel) (Sub.refl _) ?_
        refine ax_block ?_
        refine ax_then ?_
        refine At.regs (L' := [(2, _), (5, _), (6, _), (13, _), (14, _), (17, _), (18, _), (19, _), (20, _), (21, _), (22, _), (23, _), (24, _), (25, _), (26, _), (27, _), (28, _)]) (.cons rfl (.cons rfl (.cons rfl (.cons rfl (.cons rfl (.cons rfl (.cons rfl (.cons rfl (.cons rfl (.cons rfl (.cons rfl (.cons rfl (.cons rfl (.cons rfl (.cons rfl (.cons rfl (.cons rfl (.nil _)))))))))))))))))) ?_
        refine cd_region ?_
        refine st (ev_move rfl) rfl rfl rfl ?_
        refine st (ev_add64 rfl rfl (by omega) (by omega)) rfl rfl rfl ?_
        refine st (ev_assign rfl) rfl rfl rfl ?_
        refine op_nil ?_
        refine ax_heq (i := 20) (v' := .own (v26) 39 32 (flat (Ky.leaves s (x.1 + 1)))) rfl (by rw [Ky.leaves_snoc]) ?_
        exact at_again ((x.1 + 1, v26)) (by show x.1 + 1 ≤ 16; omega) (by omega) (.cons rfl (.cons rfl (.cons rfl (.nil _)))) (.cons rfl (.cons rfl (.nil _))) (.cons rfl (.nil _))
      ·
        refine wo (i := 8) rfl ?_
        refine st_bsh1 (h := 25) Try.underlying26 ty39 rfl (by first | assumption | omega) rfl rfl (fun b25 hu25 => ?_)
        refine op_nil ?_
        refine ax_then ?_
        refine mx_one (i := 4) (by decide +kernel) (Sub.refl _) ?_
        refine wo (i := 4) rfl ?_
        refine st (ld_blk1 (h := 12) ty26 rfl rfl rfl (Ky.rcells_32 hl _ _)) rfl rfl rfl ?_
        refine op_nil ?_
        refine ax_then ?_
        refine mx_one (i := 9) (by decide +kernel) (Sub.refl _) ?_
        refine wo (i := 9) rfl ?_
        refine st_appendh (h := 20) Try.underlying26 Try.underlying26 ty39 rfl rfl rfl rfl (fun w1 sw => sw.own_rd (h := 25) rfl) (by assumption) (by assumption) (by first | omega | (simp only [List.length_append, List.length_cons, List.length_nil, List.length_set, List.length_replicate, List.length_take, List.length_drop, ints_length, wr_length, sha_len, node_len, recov_len, Ky.named_len, Ky.keyPub_len] <;> omega)) (by decide) rfl rfl (fun v26 hu26 => ?_)
        refine at_own_shape (h := 20) rfl (fun hs26 => ?_)
        refine op_nil ?_
        refine ax_then ?_
        refine mx (i := 10) rfl (by decide +kernel) (by decide +kernel) (by decide +kernel) rfl (fun w0 => ev_nilCheck rfl) rfl rfl (Sub.refl _) ?_
        refine mx (i := 11) rfl (by decide +kernel) (by decide +kernel) (by decide +kernel) rfl (fun w0 => ev_fieldAddr (b := _) Try.underlying55 (f := _) rfl ty26 (by decide) rfl) rfl rfl (Sub.refl _) ?_
        refine mx_one (i := 12) (by decide +kernel) (Sub.refl _) ?_
        refine wo (i := 12) rfl ?_
        refine st_store1 12 ty26 rfl rfl rfl hs26.2 (by rw [Ky.rcells_len hl (by simp)]; decide) rfl ?_
        refine at_heq (i := 12) (v' := .blk (b12) (.cells (Ky.rcells s v26 (List.replicate 32 0) (Ky.clamp u)).toArray 55)) rfl (congrArg (fun l : List Value => Ent.blk b12 (.cells l.toArray 55)) (Ky.rcells_set32 hl _ _ _)) ?_
        refine op_nil ?_
        refine ax_then ?_
        refine mx_done (by decide +kernel) (Sub.refl _) ?_
        refine ax_block ?_
        refine ax_then ?_
        refine At.regs (L' := [(2, _), (5, _), (6, _), (13, _), (14, _), (17, _), (18, _), (19, _), (20, _), (21, _), (22, _), (23, _), (24, _), (25, _), (26, _), (27, _), (28, _)]) (.cons rfl (.cons rfl (.cons rfl (.cons rfl (.cons rfl (.cons rfl (.cons rfl (.cons rfl (.cons rfl (.cons rfl (.cons rfl (.cons rfl (.cons rfl (.cons rfl (.cons rfl (.cons rfl (.cons rfl (.nil _)))))))))))))))))) ?_
        refine cd_region ?_
        refine st (ev_move rfl) rfl rfl rfl ?_
        refine st (ev_add64 rfl rfl (by omega) (by omega)) rfl rfl rfl ?_
        refine st (ev_assign rfl) rfl rfl rfl ?_
        refine op_nil ?_
        refine ax_heq (i := 20) (v' := .own (v26) 39 32 (flat (Ky.leaves s (x.1 + 1)))) rfl (by rw [Ky.leaves_snoc]) ?_
        exact at_again ((x.1 + 1, v26)) (by show x.1 + 1 ≤ 16; omega) (by omega) (.cons rfl (.cons rfl (.cons rfl (.nil _)))) (.cons rfl (.cons rfl (.nil _))) (.cons rfl (.nil _))
  ·
    obtain ⟨j, v⟩ := x
    dsimp only at hi hc14 ⊢
    obtain rfl : j = 16 := by omega
    have hlu := Ky.leaves_h32 s 16
    have hll := Ky.leaves_len s 16
    refine cd_exit ?_
    refine ax_then_exit ?_
    refine ax_then_exit ?_
    refine ax_block_hit ?_
    refine ax_then ?_
    refine At.regs (L' := [(5, _)]) (.cons rfl (.nil _)) ?_
    refine cd_seq ?_
    refine cd_region ?_
    refine st (ev_move rfl) rfl rfl rfl ?_
    refine st (ev_move rfl) rfl rfl rfl ?_
    refine st (ev_nilCheck rfl) rfl rfl rfl ?_
    refine st (ev_fieldAddr (b := _) Try.underlying55 (f := _) rfl ty26 (by decide) rfl) rfl rfl rfl ?_
    refine st (ld_blk1 (h := 12) ty26 rfl rfl rfl (Ky.rcells_32 hl _ _)) rfl rfl rfl ?_
    refine st_callv has49 rfl (fun w1 sw => rroot_any v (Ky.leaves s 16) w1 hlu (by rw [hll]; decide) (sw.own_rd (h := 20) rfl)) rfl rfl ?_
    refine st_callv has48 rfl (fun w1 sw => rnamed_any (root (Ky.leaves s 16)) w1 (root_len hlu)) rfl rfl ?_
    refine at_eq (i := 35) (v' := .agg (ints .u8 (Ky.keyPub s)).toArray) rfl rfl ?_
    refine st (ev_nilCheck rfl) rfl rfl rfl ?_
    refine st (ev_fieldAddr (b := _) Try.underlying55 (f := _) rfl ty39 (by decide) rfl) rfl rfl rfl ?_
    refine st_store 12 ty39 rfl rfl rfl rfl (by rw [ints_length, Ky.keyPub_len]) (ints_one _ _) (by rw [Ky.rcells_len hl (by simp)]; decide) rfl ?_
    refine at_heq (i := 12) (v' := .blk (b12) (.cells (Ky.rcells s v (Ky.keyPub s) (Ky.clamp u)).toArray 55)) rfl (congrArg (fun l : List Value => Ent.blk b12 (.cells l.toArray 55)) (Ky.rcells_wr hl (by simp) (Ky.keyPub_len s) _ _)) ?_
    refine op_nil ?_
    refine ax_then ?_
    refine At.regs (L' := [(5, _)]) (.cons rfl (.nil _)) ?_
    refine cd_seq ?_
    refine cd_region ?_
    refine st (ev_move rfl) rfl rfl rfl ?_
    refine st (ev_assign rfl) rfl rfl rfl ?_
    refine op_nil ?_
    refine ax_then ?_
    refine At.regs (L' := [(4, _)]) (.cons rfl (.nil _)) ?_
    refine cd_ret ?_
    refine rt_tmp (.inl rfl) Try.results27 rfl ?_
    exact fun w1 sw => ⟨(b12, v), trivial, rfl, (sw.gives (N := [(12, _), (20, _)]) (.cons rfl (.cons rfl (.nil _)))).rn2 (by decide) 0 1⟩
set_option maxRecDepth 20000 in
set_option maxHeartbeats 1000000 in
theorem rsignk_used (b : Nat) (v : Value) (s : List Int) (n : Nat) (q : Value) (w : World) (hn : 16 ≤ n) (hl : s.length = 32) (h : Lies w b 0 (Ky.rcells s v (Ky.keyPub s) ((n : Int)))) : Calls Try.prog 30 #[.pointer (some ⟨b, 0, none⟩), q] w (PostV w (.tuple #[.agg (List.toArray [.int .i64 0, .slice none 0 0, .slice none 0 0]), .int .i64 3])) := by
  refine calls_at (vs := [.pointer (some ⟨b, 0, none⟩), q]) (X := []) (H := []) (F := [(21, .mem b 0 (Ky.rcells s v (Ky.keyPub s) ((n : Int))))]) 45 Try.func30 rfl rfl rfl ((Sat.start0 w).read 21 h off_nil) ?_
  refine cd_seq ?_
  refine cd_region ?_
  refine st_alloc (h := 4) ty42 rfl rfl rfl (fun b4 => ?_)
  refine st (ev_assign rfl) rfl rfl rfl ?_
  refine op_nil ?_
  refine ax_then ?_
  refine At.regs (L' := [(0, _), (1, _), (4, _), (5, _)]) (.cons rfl (.cons rfl (.cons rfl (.cons rfl (.nil _))))) ?_
  refine cd_seq ?_
  refine cd_seq ?_
  refine cd_region ?_
  refine st (ev_move rfl) rfl rfl rfl ?_
  refine st (ev_nilCheck rfl) rfl rfl rfl ?_
  refine st (ev_fieldAddr (b := _) Try.underlying55 (f := _) rfl ty3 (by decide) rfl) rfl rfl rfl ?_
  refine st (ld_mem1 (h := 21) ty3 rfl rfl rfl (Nat.zero_add _).symm (Ky.rcells_65 hl (Ky.keyPub_len s) _ _)) rfl rfl rfl ?_
  refine st (ev_geq rfl rfl) rfl rfl rfl ?_
  refine op_nil ?_
  refine ax_then ?_
  refine At.regs (L' := [(0, _), (1, _), (4, _), (5, _), (11, _)]) (.cons rfl (.cons rfl (.cons rfl (.cons rfl (.cons rfl (.nil _)))))) ?_
  refine cd_if_t rfl (by omega) ?_
  refine cd_seq ?_
  refine cd_region ?_
  refine st (ev_build_struct ty42 rfl pl42 rfl rfl) rfl rfl rfl ?_
  refine st_store_all 4 ty42 rfl rfl rfl rfl (by first | omega | (simp only [List.length_append, List.length_cons, List.length_nil, List.length_set, List.length_replicate, List.length_take, List.length_drop, ints_length, wr_length, sha_len, node_len, recov_len, Ky.named_len, Ky.keyPub_len] <;> omega) | rfl) (by first | (intro u hu; simp at hu; rcases hu with rfl | rfl <;> rfl) | (simp [Value.oneCell'])) (by first | omega | (simp only [List.length_append, List.length_cons, List.length_nil, List.length_set, List.length_replicate, List.length_take, List.length_drop, ints_length, wr_length, sha_len, node_len, recov_len, Ky.named_len, Ky.keyPub_len] <;> omega) | rfl) rfl ?_
  refine st (ev_assign rfl) rfl rfl rfl ?_
  refine op_nil ?_
  refine ax_then ?_
  refine At.regs (L' := [(0, _), (1, _), (4, _), (5, _)]) (.cons rfl (.cons rfl (.cons rfl (.cons rfl (.nil _))))) ?_
  refine cd_ret ?_
  refine ax_then_ret ?_
  refine rt_cell_tmp (h0 := 4) (.inl rfl) Try.results30 ty42 rfl rfl rfl (by first | omega | (simp only [List.length_append, List.length_cons, List.length_nil, List.length_set, List.length_replicate, List.length_take, List.length_drop, ints_length, wr_length, sha_len, node_len, recov_len, Ky.named_len, Ky.keyPub_len] <;> omega) | rfl) rfl ?_
  exact fun w1 sw => ⟨rfl, sw.gives (.nil _)⟩
set_option maxRecDepth 20000 in
set_option maxHeartbeats 4000000 in
theorem rsignk_any (b : Nat) (v q : Value) (s m : List Int) (n : Nat) (w : World) (hl : s.length = 32) (hn : n < 16) (hm : m.length ≤ 140737488352000) (hb : w.heap[b]? = some (.cells (Ky.rcells s v (Ky.keyPub s) ((n : Int))).toArray 55)) (h : Rd w v 32 (flat (Ky.leaves s 16))) (hbv : FE.off b (.sl (v) 32 (flat (Ky.leaves s 16)))) (h' : Rd w q 1 (ints .u8 m)) (hbq : FE.off b (.sl (q) 1 (ints .u8 (m)))) : Calls Try.prog 30 #[.pointer (some ⟨b, 0, none⟩), q] w (Post (ι := Value × Value) w [b] (fun _ => True) (fun x => .tuple #[.agg (List.toArray [.int .i64 (n : Int), x.1, x.2]), .int .i64 0]) (fun x => [(0, .blk (b) (.cells (Ky.rcells s v (Ky.keyPub s) (((n + 1 : Nat) : Int))).toArray 55)), (1, .own (x.1) 39 32 (flat (sign s n m 36))), (2, .own (x.2) 39 32 (flat (path (Ky.leaves s 16) n)))])) := by
  have hlu := Ky.leaves_h32 s 16
  have hll := Ky.leaves_len s 16
  refine calls_at (vs := [.pointer (some ⟨b, 0, none⟩), q]) (X := [b]) (H := [(0, .blk (b) (.cells (Ky.rcells s v (Ky.keyPub s) ((n : Int))).toArray 55))]) (F := [(2, .sl (q) 1 (ints .u8 (m))), (1, .sl (v) 32 (flat (Ky.leaves s 16)))]) 45 Try.func30 rfl rfl rfl (((Sat.blkX 0 hb).readb (f := .sl (v) 32 (flat (Ky.leaves s 16))) 1 h hbv).readb (f := .sl (q) 1 (ints .u8 (m))) 2 h' hbq) ?_
  refine cd_seq ?_
  refine cd_region ?_
  refine st_alloc (h := 4) ty42 rfl rfl rfl (fun b4 => ?_)
  refine st (ev_assign rfl) rfl rfl rfl ?_
  refine op_nil ?_
  refine ax_then ?_
  refine At.regs (L' := [(0, _), (1, _), (4, _), (5, _)]) (.cons rfl (.cons rfl (.cons rfl (.cons rfl (.nil _))))) ?_
  refine cd_seq ?_
  refine cd_seq ?_
  refine cd_region ?_
  refine st (ev_move rfl) rfl rfl rfl ?_
  refine st (ev_nilCheck rfl) rfl rfl rfl ?_
  refine st (ev_fieldAddr (b := _) Try.underlying55 (f := _) rfl ty3 (by decide) rfl) rfl rfl rfl ?_
  refine st (ld_blk1 (h := 0) ty3 rfl rfl rfl (Ky.rcells_65 hl (Ky.keyPub_len s) _ _)) rfl rfl rfl ?_
  refine st (ev_geq rfl rfl) rfl rfl rfl ?_
  refine op_nil ?_
  refine ax_then ?_
  refine At.regs (L' := [(0, _), (1, _), (4, _), (5, _), (11, _)]) (.cons rfl (.cons rfl (.cons rfl (.cons rfl (.cons rfl (.nil _)))))) ?_
  refine cd_if_f rfl (by omega) ?_
  refine cd_skip ?_
  refine ax_then ?_
  refine At.regs (L' := [(0, _), (1, _), (4, _), (5, _)]) (.cons rfl (.cons rfl (.cons rfl (.cons rfl (.nil _))))) ?_
  refine cd_join (ι := Nat × Value × Value) (fun x => ((x.2.1.cells = #[x.2.1] ∧ x.2.1.oneCell' = true) ∧ (x.2.2.cells = #[x.2.2] ∧ x.2.2.oneCell' = true))) (fun x => [(0, .pointer (some ⟨b, 0, none⟩)), (4, .pointer (some ⟨b4, 0, none⟩)), (6, .pointer (some ⟨x.1, 0, none⟩))]) (fun x => [(0, .blk (b) (.cells (Ky.rcells s v (Ky.keyPub s) ((n : Int))).toArray 55)), (4, .blk (b4) (.cells ([.int .i64 0, .slice none 0 0, .slice none 0 0]).toArray 42)), (6, .blk (x.1) (.cells ([.int .i64 (n : Int), x.2.1, x.2.2]).toArray 42)), (26, .own (x.2.1) 39 32 (flat (sign s n m 36))), (35, .own (x.2.2) 39 32 (flat (path (Ky.leaves s 16) n)))]) (fun x => [(1, .sl (v) 32 (flat (Ky.leaves s 16))), (2, .sl (q) 1 (ints .u8 (m)))]) ?_ (fun x hj => ?_)
  ·
    refine cd_mixp [(300, .mem b 0 (Ky.rcells s v (Ky.keyPub s) ((n : Int)))), (2, .sl (q) 1 (ints .u8 (m))), (1, .sl (v) 32 (flat (Ky.leaves s 16)))] hmix ?_
    refine mxp (i := 0) rfl (by decide +kernel) (by decide +kernel) (by decide +kernel) rfl (fun w0 => ev_move rfl) rfl rfl (fun w sw => CF.cons (lies_blk (sw.blk_eq (h := 0) rfl)) (sw.cf (.refl _))) ?_
    refine mxp (i := 1) rfl (by decide +kernel) (by decide +kernel) (by decide +kernel) rfl (fun w0 => ev_nilCheck rfl) rfl rfl (fun w sw => CF.cons (lies_blk (sw.blk_eq (h := 0) rfl)) (sw.cf (.refl _))) ?_
    refine mxp (i := 2) rfl (by decide +kernel) (by decide +kernel) (by decide +kernel) rfl (fun w0 => ev_fieldAddr (b := _) Try.underlying55 (f := _) rfl ty3 (by decide) rfl) rfl rfl (fun w sw => CF.cons (lies_blk (sw.blk_eq (h := 0) rfl)) (sw.cf (.refl _))) ?_
    refine mxp (i := 3) rfl (by decide +kernel) (by decide +kernel) (by decide +kernel) rfl (fun w0 => ld_mem1 (h := 300) ty3 rfl rfl rfl (Nat.zero_add _).symm (Ky.rcells_65 hl (Ky.keyPub_len s) _ _)) rfl rfl (fun w sw => CF.cons (lies_blk (sw.blk_eq (h := 0) rfl)) (sw.cf (.refl _))) ?_
    refine mxp (i := 4) rfl (by decide +kernel) (by decide +kernel) (by decide +kernel) rfl (fun w0 => ev_move rfl) rfl rfl (fun w sw => CF.cons (lies_blk (sw.blk_eq (h := 0) rfl)) (sw.cf (.refl _))) ?_
    refine mxp (i := 5) rfl (by decide +kernel) (by decide +kernel) (by decide +kernel) rfl (fun w0 => ev_nilCheck rfl) rfl rfl (fun w sw => CF.cons (lies_blk (sw.blk_eq (h := 0) rfl)) (sw.cf (.refl _))) ?_
    refine mxp (i := 6) rfl (by decide +kernel) (by decide +kernel) (by decide +kernel) rfl (fun w0 => ev_fieldAddr (b := _) Try.underlying55 (f := _) rfl ty39 (by decide) rfl) rfl rfl (fun w sw => CF.cons (lies_blk (sw.blk_eq (h := 0) rfl)) (sw.cf (.refl _))) ?_
    refine mxp (i := 7) rfl (by decide +kernel) (by decide +kernel) (by decide +kernel) rfl (fun w0 => ld_mem (h := 300) (k := 0) ty39 rfl rfl rfl rfl (by rw [Ky.rcells_len hl (Ky.keyPub_len s)]; decide)) rfl rfl (fun w sw => CF.cons (lies_blk (sw.blk_eq (h := 0) rfl)) (sw.cf (.refl _))) ?_
    refine at_eq (i := 20) (v' := .agg (ints .u8 (s)).toArray) rfl (congrArg (fun x => Value.agg (List.toArray x)) (Ky.rcells_seed hl _ _)) ?_
    refine mxp (i := 8) rfl (by decide +kernel) (by decide +kernel) (by decide +kernel) rfl (fun w0 => ev_move rfl) rfl rfl (fun w sw => CF.cons (lies_blk (sw.blk_eq (h := 0) rfl)) (sw.cf (.refl _))) ?_
    refine mxp (i := 9) rfl (by decide +kernel) (by decide +kernel) (by decide +kernel) rfl (fun w0 => ev_nilCheck rfl) rfl rfl (fun w sw => CF.cons (lies_blk (sw.blk_eq (h := 0) rfl)) (sw.cf (.refl _))) ?_
    refine mxp (i := 10) rfl (by decide +kernel) (by decide +kernel) (by decide +kernel) rfl (fun w0 => ev_fieldAddr (b := _) Try.underlying55 (f := _) rfl ty3 (by decide) rfl) rfl rfl (fun w sw => CF.cons (lies_blk (sw.blk_eq (h := 0) rfl)) (sw.cf (.refl _))) ?_
    refine mxp (i := 11) rfl (by decide +kernel) (by decide +kernel) (by decide +kernel) rfl (fun w0 => ld_mem1 (h := 300) ty3 rfl rfl rfl (Nat.zero_add _).symm (Ky.rcells_65 hl (Ky.keyPub_len s) _ _)) rfl rfl (fun w sw => CF.cons (lies_blk (sw.blk_eq (h := 0) rfl)) (sw.cf (.refl _))) ?_
    refine mxp (i := 12) rfl (by decide +kernel) (by decide +kernel) (by decide +kernel) rfl (fun w0 => ev_move rfl) rfl rfl (fun w sw => CF.cons (lies_blk (sw.blk_eq (h := 0) rfl)) (sw.cf (.refl _))) ?_
    refine mxp (i := 14) rfl (by decide +kernel) (by decide +kernel) (by decide +kernel) rfl (fun w0 => ev_move rfl) rfl rfl (fun w sw => CF.cons (lies_blk (sw.blk_eq (h := 0) rfl)) (sw.cf (.refl _))) ?_
    refine mxp (i := 15) rfl (by decide +kernel) (by decide +kernel) (by decide +kernel) rfl (fun w0 => ev_nilCheck rfl) rfl rfl (fun w sw => CF.cons (lies_blk (sw.blk_eq (h := 0) rfl)) (sw.cf (.refl _))) ?_
    refine mxp (i := 16) rfl (by decide +kernel) (by decide +kernel) (by decide +kernel) rfl (fun w0 => ev_fieldAddr (b := _) Try.underlying55 (f := _) rfl ty26 (by decide) rfl) rfl rfl (fun w sw => CF.cons (lies_blk (sw.blk_eq (h := 0) rfl)) (sw.cf (.refl _))) ?_
    refine mxp (i := 17) rfl (by decide +kernel) (by decide +kernel) (by decide +kernel) rfl (fun w0 => ld_mem1 (h := 300) ty26 rfl rfl rfl (Nat.zero_add _).symm (Ky.rcells_32 hl _ _)) rfl rfl (fun w sw => CF.cons (lies_blk (sw.blk_eq (h := 0) rfl)) (sw.cf (.refl _))) ?_
    refine mxp (i := 18) rfl (by decide +kernel) (by decide +kernel) (by decide +kernel) rfl (fun w0 => ev_move rfl) rfl rfl (fun w sw => CF.cons (lies_blk (sw.blk_eq (h := 0) rfl)) (sw.cf (.refl _))) ?_
    refine mxp (i := 19) rfl (by decide +kernel) (by decide +kernel) (by decide +kernel) rfl (fun w0 => ev_nilCheck rfl) rfl rfl (fun w sw => CF.cons (lies_blk (sw.blk_eq (h := 0) rfl)) (sw.cf (.refl _))) ?_
    refine mxp (i := 20) rfl (by decide +kernel) (by decide +kernel) (by decide +kernel) rfl (fun w0 => ev_fieldAddr (b := _) Try.underlying55 (f := _) rfl ty3 (by decide) rfl) rfl rfl (fun w sw => CF.cons (lies_blk (sw.blk_eq (h := 0) rfl)) (sw.cf (.refl _))) ?_
    refine mxp (i := 21) rfl (by decide +kernel) (by decide +kernel) (by decide +kernel) rfl (fun w0 => ld_mem1 (h := 300) ty3 rfl rfl rfl (Nat.zero_add _).symm (Ky.rcells_65 hl (Ky.keyPub_len s) _ _)) rfl rfl (fun w sw => CF.cons (lies_blk (sw.blk_eq (h := 0) rfl)) (sw.cf (.refl _))) ?_
    refine mxp_two (i := 13) (j := 24) (by decide +kernel) (fun w sw => CF.cons (lies_blk (sw.blk_eq (h := 0) rfl)) (sw.cf (.refl _))) ?_ ?_
    ·
      refine wo (i := 13) rfl ?_
      refine st_call has54 rfl (fun w1 sw => rn 26 (rsign_any s n q m w1 (by first | rfl | assumption) (by first | decide | omega) (sw.sl_rd (h := 2) rfl))) nil_all rfl rfl (fun v26 _ => ?_)
      have hsu26 := sign_h32 s n m 36
      have hsn26 := sign_len s n m 36
      refine at_own_shape (h := 26) rfl (fun hs26 => ?_)
      refine op_nil ?_
      refine ax_then ?_
      refine mxp_two (i := 22) (j := 24) (by decide +kernel) (fun w sw => CF.cons (lies_blk (sw.blk_eq (h := 0) rfl)) (sw.cf (.refl _))) ?_ ?_
      ·
        refine wo (i := 22) rfl ?_
        refine st_call has55 rfl (fun w1 sw => rn 35 (rpath_any v (Ky.leaves s 16) (n : Int) w1 hlu (by rw [hll]; decide) (by omega) (sw.sl_rd (h := 1) rfl))) nil_all rfl rfl (fun v35 _ => ?_)
        refine at_own_shape (h := 35) rfl (fun hs35 => ?_)
        refine op_nil ?_
        refine ax_then ?_
        refine mxp (i := 23) rfl (by decide +kernel) (by decide +kernel) (by decide +kernel) rfl (fun w0 => ev_build_struct ty42 rfl pl42 rfl ((fill_put (i := 0) (off := 0) (n := 1) (vs := [.int .i64 (n : Int)]) rfl rfl rfl (Nat.le_of_ble_eq_true rfl)).trans ((fill_put (i := 1) (off := 1) (n := 1) (vs := [v26]) rfl hs26.1 rfl (Nat.le_of_ble_eq_true rfl)).trans ((fill_put (i := 2) (off := 2) (n := 1) (vs := [v35]) rfl hs35.1 rfl (Nat.le_of_ble_eq_true rfl)).trans fill_nil)))) rfl rfl (fun w sw => CF.cons (lies_blk (sw.blk_eq (h := 0) rfl)) (sw.cf (.refl _))) ?_
        refine at_eq (i := 36) (v' := .agg (List.toArray [.int .i64 (n : Int), v26, v35])) rfl rfl ?_
        refine mxp_one (i := 24) (by decide +kernel) (fun w sw => CF.cons (lies_blk (sw.blk_eq (h := 0) rfl)) (sw.cf (.refl _))) ?_
        refine wo (i := 24) rfl ?_
        refine st_alloc (h := 6) ty42 rfl rfl rfl (fun b6 => ?_)
        refine op_nil ?_
        refine ax_then ?_
        refine mxp_one (i := 25) (by decide +kernel) (fun w sw => CF.cons (lies_blk (sw.blk_eq (h := 0) rfl)) (sw.cf (.refl _))) ?_
        refine wo (i := 25) rfl ?_
        refine st_store_all 6 ty42 rfl rfl rfl rfl rfl (by intro u hu; simp at hu; rcases hu with rfl | rfl | rfl; rfl; exact hs26.2; exact hs35.2) rfl rfl ?_
        refine op_nil ?_
        refine ax_then ?_
        refine mxp_done (by decide +kernel) (fun w sw => CF.cons (lies_blk (sw.blk_eq (h := 0) rfl)) (sw.cf (.refl _))) ?_
        exact at_met ((b6, v26, v35)) (⟨hs26, hs35⟩) (.cons rfl (.cons rfl (.cons rfl (.nil _)))) (.cons rfl (.cons rfl (.cons rfl (.cons rfl (.cons rfl (.nil _)))))) (.cons rfl (.cons rfl (.nil _)))
      ·
        refine wo (i := 24) rfl ?_
        refine st_alloc (h := 6) ty42 rfl rfl rfl (fun b6 => ?_)
        refine op_nil ?_
        refine ax_then ?_
        refine mxp_one (i := 22) (by decide +kernel) (fun w sw => CF.cons (lies_blk (sw.blk_eq (h := 0) rfl)) (sw.cf (.refl _))) ?_
        refine wo (i := 22) rfl ?_
        refine st_call has55 rfl (fun w1 sw => rn 35 (rpath_any v (Ky.leaves s 16) (n : Int) w1 hlu (by rw [hll]; decide) (by omega) (sw.sl_rd (h := 1) rfl))) nil_all rfl rfl (fun v35 _ => ?_)
        refine at_own_shape (h := 35) rfl (fun hs35 => ?_)
        refine op_nil ?_
        refine ax_then ?_
        refine mxp (i := 23) rfl (by decide +kernel) (by decide +kernel) (by decide +kernel) rfl (fun w0 => ev_build_struct ty42 rfl pl42 rfl ((fill_put (i := 0) (off := 0) (n := 1) (vs := [.int .i64 (n : Int)]) rfl rfl rfl (Nat.le_of_ble_eq_true rfl)).trans ((fill_put (i := 1) (off := 1) (n := 1) (vs := [v26]) rfl hs26.1 rfl (Nat.le_of_ble_eq_true rfl)).trans ((fill_put (i := 2) (off := 2) (n := 1) (vs := [v35]) rfl hs35.1 rfl (Nat.le_of_ble_eq_true rfl)).trans fill_nil)))) rfl rfl (fun w sw => CF.cons (lies_blk (sw.blk_eq (h := 0) rfl)) (sw.cf (.refl _))) ?_
        refine at_eq (i := 36) (v' := .agg (List.toArray [.int .i64 (n : Int), v26, v35])) rfl rfl ?_
        refine mxp_one (i := 25) (by decide +kernel) (fun w sw => CF.cons (lies_blk (sw.blk_eq (h := 0) rfl)) (sw.cf (.refl _))) ?_
        refine wo (i := 25) rfl ?_
        refine st_store_all 6 ty42 rfl rfl rfl rfl rfl (by intro u hu; simp at hu; rcases hu with rfl | rfl | rfl; rfl; exact hs26.2; exact hs35.2) rfl rfl ?_
        refine op_nil ?_
        refine ax_then ?_
        refine mxp_done (by decide +kernel) (fun w sw => CF.cons (lies_blk (sw.blk_eq (h := 0) rfl)) (sw.cf (.refl _))) ?_
        exact at_met ((b6, v26, v35)) (⟨hs26, hs35⟩) (.cons rfl (.cons rfl (.cons rfl (.nil _)))) (.cons rfl (.cons rfl (.cons rfl (.cons rfl (.cons rfl (.nil _)))))) (.cons rfl (.cons rfl (.nil _)))
    ·
      refine wo (i := 24) rfl ?_
      refine st_alloc (h := 6) ty42 rfl rfl rfl (fun b6 => ?_)
      refine op_nil ?_
      refine ax_then ?_
      refine mxp_one (i := 13) (by decide +kernel) (fun w sw => CF.cons (lies_blk (sw.blk_eq (h := 0) rfl)) (sw.cf (.refl _))) ?_
      refine wo (i := 13) rfl ?_
      refine st_call has54 rfl (fun w1 sw => rn 26 (rsign_any s n q m w1 (by first | rfl | assumption) (by first | decide | omega) (sw.sl_rd (h := 2) rfl))) nil_all rfl rfl (fun v26 _ => ?_)
      have hsu26 := sign_h32 s n m 36
      have hsn26 := sign_len s n m 36
      refine at_own_shape (h := 26) rfl (fun hs26 => ?_)
      refine op_nil ?_
      refine ax_then ?_
      refine mxp_one (i := 22) (by decide +kernel) (fun w sw => CF.cons (lies_blk (sw.blk_eq (h := 0) rfl)) (sw.cf (.refl _))) ?_
      refine wo (i := 22) rfl ?_
      refine st_call has55 rfl (fun w1 sw => rn 35 (rpath_any v (Ky.leaves s 16) (n : Int) w1 hlu (by rw [hll]; decide) (by omega) (sw.sl_rd (h := 1) rfl))) nil_all rfl rfl (fun v35 _ => ?_)
      refine at_own_shape (h := 35) rfl (fun hs35 => ?_)
      refine op_nil ?_
      refine ax_then ?_
      refine mxp (i := 23) rfl (by decide +kernel) (by decide +kernel) (by decide +kernel) rfl (fun w0 => ev_build_struct ty42 rfl pl42 rfl ((fill_put (i := 0) (off := 0) (n := 1) (vs := [.int .i64 (n : Int)]) rfl rfl rfl (Nat.le_of_ble_eq_true rfl)).trans ((fill_put (i := 1) (off := 1) (n := 1) (vs := [v26]) rfl hs26.1 rfl (Nat.le_of_ble_eq_true rfl)).trans ((fill_put (i := 2) (off := 2) (n := 1) (vs := [v35]) rfl hs35.1 rfl (Nat.le_of_ble_eq_true rfl)).trans fill_nil)))) rfl rfl (fun w sw => CF.cons (lies_blk (sw.blk_eq (h := 0) rfl)) (sw.cf (.refl _))) ?_
      refine at_eq (i := 36) (v' := .agg (List.toArray [.int .i64 (n : Int), v26, v35])) rfl rfl ?_
      refine mxp_one (i := 25) (by decide +kernel) (fun w sw => CF.cons (lies_blk (sw.blk_eq (h := 0) rfl)) (sw.cf (.refl _))) ?_
      refine wo (i := 25) rfl ?_
      refine st_store_all 6 ty42 rfl rfl rfl rfl rfl (by intro u hu; simp at hu; rcases hu with rfl | rfl | rfl; rfl; exact hs26.2; exact hs35.2) rfl rfl ?_
      refine op_nil ?_
      refine ax_then ?_
      refine mxp_done (by decide +kernel) (fun w sw => CF.cons (lies_blk (sw.blk_eq (h := 0) rfl)) (sw.cf (.refl _))) ?_
      exact at_met ((b6, v26, v35)) (⟨hs26, hs35⟩) (.cons rfl (.cons rfl (.cons rfl (.nil _)))) (.cons rfl (.cons rfl (.cons rfl (.cons rfl (.cons rfl (.nil _)))))) (.cons rfl (.cons rfl (.nil _)))
  ·
    obtain ⟨b6, v26, v35⟩ := x
    dsimp only at hj ⊢
    obtain ⟨hs26, hs35⟩ := hj
    refine cd_seq ?_
    refine cd_region ?_
    refine st (ev_move rfl) rfl rfl rfl ?_
    refine st (ev_nilCheck rfl) rfl rfl rfl ?_
    refine st (ev_fieldAddr (b := _) Try.underlying55 (f := _) rfl ty3 (by decide) rfl) rfl rfl rfl ?_
    refine st (ld_blk1 (h := 0) ty3 rfl rfl rfl (Ky.rcells_65 hl (Ky.keyPub_len s) _ _)) rfl rfl rfl ?_
    refine st (ev_add64 rfl rfl (by omega) (by omega)) rfl rfl rfl ?_
    refine st (ev_nilCheck rfl) rfl rfl rfl ?_
    refine st (ev_fieldAddr (b := _) Try.underlying55 (f := _) rfl ty3 (by decide) rfl) rfl rfl rfl ?_
    refine st_store1 0 ty3 rfl rfl rfl rfl (by rw [Ky.rcells_len hl (Ky.keyPub_len s)]; decide) rfl ?_
    refine at_heq (i := 0) (v' := .blk (b) (.cells (Ky.rcells s v (Ky.keyPub s) (((n + 1 : Nat) : Int))).toArray 55)) rfl (congrArg (fun l : List Value => Ent.blk b (.cells l.toArray 55)) (Ky.rcells_set65 hl (Ky.keyPub_len s) _ _ _)) ?_
    refine op_nil ?_
    refine ax_then ?_
    refine At.regs (L' := [(4, _), (6, _)]) (.cons rfl (.cons rfl (.nil _))) ?_
    refine cd_seq ?_
    refine cd_region ?_
    refine st (ld_blk_all (h := 6) ty42 rfl rfl rfl (by first | omega | (simp only [List.length_append, List.length_cons, List.length_nil, List.length_set, List.length_replicate, List.length_take, List.length_drop, ints_length, wr_length, sha_len, node_len, recov_len, Ky.named_len, Ky.keyPub_len] <;> omega) | rfl)) rfl rfl rfl ?_
    refine st_store_all 4 ty42 rfl rfl rfl rfl rfl (by intro u hu; simp at hu; rcases hu with rfl | rfl | rfl; rfl; exact hs26.2; exact hs35.2) rfl rfl ?_
    refine st (ev_assign rfl) rfl rfl rfl ?_
    refine op_nil ?_
    refine ax_then ?_
    refine At.regs (L' := [(4, _), (5, _)]) (.cons rfl (.cons rfl (.nil _))) ?_
    refine cd_ret ?_
    refine rt_cell_tmp (h0 := 4) (.inl rfl) Try.results30 ty42 rfl rfl rfl (by first | omega | (simp only [List.length_append, List.length_cons, List.length_nil, List.length_set, List.length_replicate, List.length_take, List.length_drop, ints_length, wr_length, sha_len, node_len, recov_len, Ky.named_len, Ky.keyPub_len] <;> omega) | rfl) rfl ?_
    exact fun w1 sw => ⟨(v26, v35), trivial, rfl, (sw.gives (N := [(0, _), (26, _), (35, _)]) (.cons rfl (.cons rfl (.cons rfl (.nil _))))).rn3 (by decide) (by decide) (by decide) 0 1 2⟩
end Go.Proofs.Yteedclmcgifmpaa

namespace Go.Proofs.Yteedclmcgifmpaa
open Go Go.RowKit Fw
open Sha
open Ots
open Mk
set_option linter.unusedVariables false
set_option linter.unusedSimpArgs false
theorem signG_any (b : Nat) (v q : Value) (s m : List Int) (n : Nat) (w : World) (hl : s.length = 32) (hm : m.length ≤ 140737488352000) (hb : w.heap[b]? = some (.cells (Ky.cells s v ((n : Nat) : Int)).toArray 81)) (h : Rd w v 32 (flat (Ky.leaves s 16))) (hbv : FE.off b (.sl (v) 32 (flat (Ky.leaves s 16)))) (h' : Rd w q 1 (ints .u8 m)) (hbq : FE.off b (.sl (q) 1 (ints .u8 (m)))) : Calls Try.prog 29 #[.pointer (some ⟨b, 0, none⟩), q] w (Post (ι := Value × Value) w [b] (fun _ => True) (fun x => .tuple #[.agg (List.toArray [.int .i64 (Ks.leaf n), x.1, x.2]), .int .i64 (Ks.err n)]) (fun x => [(0, .blk (b) (.cells (Ky.cells s v ((Ks.nxt n : Nat) : Int)).toArray 81)), (1, .own (x.1) 39 32 (flat (Ks.cs s n m))), (2, .own (x.2) 39 32 (flat (Ks.ps s n)))])) := by
  by_cases hn : n < 16
  · refine (signk_any b v q s m n w hl hn hm hb h hbv h' hbq).mono ?_
    rintro e w' ⟨x, _, rfl, g⟩
    refine ⟨x, trivial, ?_, ?_⟩
    · simp only [Ks.leaf, Ks.err, Ks.nxt, Ks.cs, Ks.ps, if_pos hn]
    · simp only [Ks.leaf, Ks.err, Ks.nxt, Ks.cs, Ks.ps, if_pos hn]
      exact g
  · refine (signk_used b v s n q w (by omega) hl (lies_blk hb) h).mono ?_
    rintro e w' ⟨rfl, g⟩
    refine ⟨(.slice none 0 0, .slice none 0 0), trivial, ?_, ?_⟩
    · simp only [Ks.leaf, Ks.err, Ks.nxt, Ks.cs, Ks.ps, if_neg hn]
    · simp only [Ks.leaf, Ks.err, Ks.nxt, Ks.cs, Ks.ps, if_neg hn]
      exact Gives.still3 hb g
theorem qsignG_any (b : Nat) (v q : Value) (s m : List Int) (n : Nat) (w : World) (hl : s.length = 32) (hm : m.length ≤ 140737488352000) (hb : w.heap[b]? = some (.cells (Ky.rcells s v (Ky.keyPub s) ((n : Nat) : Int)).toArray 55)) (h : Rd w v 32 (flat (Ky.leaves s 16))) (hbv : FE.off b (.sl (v) 32 (flat (Ky.leaves s 16)))) (h' : Rd w q 1 (ints .u8 m)) (hbq : FE.off b (.sl (q) 1 (ints .u8 (m)))) : Calls Try.prog 30 #[.pointer (some ⟨b, 0, none⟩), q] w (Post (ι := Value × Value) w [b] (fun _ => True) (fun x => .tuple #[.agg (List.toArray [.int .i64 (Ks.leaf n), x.1, x.2]), .int .i64 (Ks.err n)]) (fun x => [(0, .blk (b) (.cells (Ky.rcells s v (Ky.keyPub s) ((Ks.nxt n : Nat) : Int)).toArray 55)), (1, .own (x.1) 39 32 (flat (Ks.cs s n m))), (2, .own (x.2) 39 32 (flat (Ks.ps s n)))])) := by
  by_cases hn : n < 16
  · refine (rsignk_any b v q s m n w hl hn hm hb h hbv h' hbq).mono ?_
    rintro e w' ⟨x, _, rfl, g⟩
    refine ⟨x, trivial, ?_, ?_⟩
    · simp only [Ks.leaf, Ks.err, Ks.nxt, Ks.cs, Ks.ps, if_pos hn]
    · simp only [Ks.leaf, Ks.err, Ks.nxt, Ks.cs, Ks.ps, if_pos hn]
      exact g
  · refine (rsignk_used b v s n q w (by omega) hl (lies_blk hb)).mono ?_
    rintro e w' ⟨rfl, g⟩
    refine ⟨(.slice none 0 0, .slice none 0 0), trivial, ?_, ?_⟩
    · simp only [Ks.leaf, Ks.err, Ks.nxt, Ks.cs, Ks.ps, if_neg hn]
    · simp only [Ks.leaf, Ks.err, Ks.nxt, Ks.cs, Ks.ps, if_neg hn]
      exact Gives.still3 hb g
set_option maxRecDepth 20000 in
set_option maxHeartbeats 2000000 in
theorem long_any (p : Value) (vs : List Value) (ms : List (List Int)) (w : World) (hlen : ms.length = vs.length) (hvl : vs.length ≤ 140737488351232) (hml : ∀ m, m ∈ ms → m.length ≤ 140737488351232) (h : Rd w p 1 vs) (hr : ∀ (i : Nat) v m, vs[i]? = some v → ms[i]? = some m → Rd w v 1 (ints .u8 m)) : Calls Try.prog 25 #[p] w (Post (ι := Bool) w [] (fun _ => True) (fun b => .bool b) (fun _ => [])) := by
  refine calls_at (vs := [p]) (X := []) (H := []) (F := [(21, .rows (Ks.rowsB vs ms)), (20, .sl p 1 vs)]) 21 Try.func25 rfl rfl rfl ((Sat.rd0 20 h).read (f := .rows (Ks.rowsB vs ms)) 21 (Ks.rowsB_rd hr) off_nil) ?_
  refine cd_seq ?_
  refine cd_region ?_
  refine st (ev_assign rfl) rfl rfl rfl ?_
  refine op_nil ?_
  refine ax_then ?_
  refine At.regs (L' := [(0, _), (2, _)]) (.cons rfl (.cons rfl (.nil _))) ?_
  refine cd_seq ?_
  refine cd_region ?_
  refine st (ev_assign rfl) rfl rfl rfl ?_
  refine op_nil ?_
  refine ax_then ?_
  refine At.regs (L' := [(0, _), (2, _), (3, _)]) (.cons rfl (.cons rfl (.cons rfl (.nil _)))) ?_
  refine cd_seq ?_
  refine cd_seq ?_
  refine cd_region ?_
  refine st (ev_assign rfl) rfl rfl rfl ?_
  refine op_nil ?_
  refine ax_then ?_
  refine At.regs (L' := [(0, _), (2, _), (3, _), (4, _)]) (.cons rfl (.cons rfl (.cons rfl (.cons rfl (.nil _))))) ?_
  refine cd_block ?_
  refine cd_loop (ι := Nat × Int) (fun x => x.1 ≤ vs.length) (fun x => vs.length - x.1)
      (fun x => [(0, p), (3, .int .i64 x.2), (4, .int .i64 (x.1 : Int))])
      (fun x => [])
      (fun x => [(20, .sl p 1 vs), (21, .rows (Ks.rowsB vs ms))])
      (0, 0) (by omega) (.cons rfl (.cons rfl (.cons rfl (.nil _)))) (.nil _) (.cons rfl (.cons rfl (.nil _))) (fun x hi => ?_)
  obtain ⟨i, n⟩ := x
  dsimp only at hi ⊢
  refine cd_seq ?_
  refine cd_seq ?_
  refine cd_region ?_
  refine st (ev_move rfl) rfl rfl rfl ?_
  refine st (ev_move rfl) rfl rfl rfl ?_
  refine st (ev_len_rd (h := 20) (n := vs.length) Try.underlying47 rfl rfl (Nat.mul_one _).symm (by decide)) rfl rfl rfl ?_
  refine st (ev_lss rfl rfl) rfl rfl rfl ?_
  refine op_nil ?_
  refine ax_then ?_
  refine At.regs (L' := [(0, _), (3, _), (4, _), (5, _), (6, _), (7, _), (8, _)]) (.cons rfl (.cons rfl (.cons rfl (.cons rfl (.cons rfl (.cons rfl (.cons rfl (.nil _)))))))) ?_
  refine cd_if rfl (fun hc8 => ?_) (fun hc8 => ?_)
  ·
    have hlt : i < vs.length := by omega
    refine cd_skip ?_
    refine ax_then ?_
    refine At.regs (L' := [(0, _), (3, _), (4, _), (5, _), (6, _), (7, _), (8, _)]) (.cons rfl (.cons rfl (.cons rfl (.cons rfl (.cons rfl (.cons rfl (.cons rfl (.nil _)))))))) ?_
    refine cd_seq ?_
    refine cd_block ?_
    refine cd_region ?_
    refine st (ev_move rfl) rfl rfl rfl ?_
    refine st (ev_add rfl rfl) rfl rfl rfl ?_
    refine st (ev_move rfl) rfl rfl rfl ?_
    refine st (ev_move rfl) rfl rfl rfl ?_
    refine st (ev_indexAddr_rd (h := 20) (n := vs.length) Try.underlying47 ty22 rfl rfl rfl (Nat.mul_one _).symm (by decide) (by omega) (by omega)) rfl rfl rfl ?_
    refine st (ld_rd1 (h := 20) ty22 rfl rfl rfl (Ks.getD_some hlt)) rfl rfl rfl ?_
    refine st (ev_len_of (sz := 1) (n := (ms.getD i []).length) Try.underlying22 rfl (fun w1 sw => sw.row (i := 21) rfl (Ks.rowsB_mem hlen hlt)) (by rw [ints_length, Nat.mul_one]) (by decide)) rfl rfl rfl ?_
    refine st (ev_add rfl rfl) rfl rfl rfl ?_
    refine st (ev_assign rfl) rfl rfl rfl ?_
    refine op_nil ?_
    refine ax_block ?_
    refine ax_then ?_
    refine At.regs (L' := [(0, _), (3, _), (4, _), (5, _), (6, _), (7, _), (8, _), (11, _), (12, _), (13, _), (14, _), (15, _), (16, _), (17, _), (18, _)]) (.cons rfl (.cons rfl (.cons rfl (.cons rfl (.cons rfl (.cons rfl (.cons rfl (.cons rfl (.cons rfl (.cons rfl (.cons rfl (.cons rfl (.cons rfl (.cons rfl (.cons rfl (.nil _)))))))))))))))) ?_
    refine cd_region ?_
    refine st (ev_move rfl) rfl rfl rfl ?_
    refine st (ev_add64 rfl rfl (by omega) (by omega)) rfl rfl rfl ?_
    refine st (ev_assign rfl) rfl rfl rfl ?_
    refine op_nil ?_
    exact at_again ((i + 1, _)) (by show i + 1 ≤ vs.length; omega) (by omega) (.cons rfl (.cons rfl (.cons rfl (.nil _)))) (.nil _) (.cons rfl (.cons rfl (.nil _)))
  ·
    refine cd_exit ?_
    refine ax_then_exit ?_
    refine ax_then_exit ?_
    refine ax_block_hit ?_
    refine ax_then ?_
    refine At.regs (L' := [(3, _)]) (.cons rfl (.nil _)) ?_
    refine cd_seq ?_
    refine cd_region ?_
    refine st (ev_move rfl) rfl rfl rfl ?_
    refine st (ev_gtr rfl rfl) rfl rfl rfl ?_
    refine st (ev_assign rfl) rfl rfl rfl ?_
    refine op_nil ?_
    refine ax_then ?_
    refine At.regs (L' := [(2, _)]) (.cons rfl (.nil _)) ?_
    refine cd_ret ?_
    refine rt_tmp (.inl rfl) Try.results25 rfl ?_
    exact fun w1 sw => ⟨_, trivial, rfl, sw.gives (.nil _)⟩
set_option maxRecDepth 20000 in
set_option maxHeartbeats 8000000 in
theorem keySigns_any (s : List Int) (u : Int) (hl : s.length = 32) (p : Value) (vs : List Value) (ms : List (List Int)) (w : World) (hlen : ms.length = vs.length) (hvl : vs.length ≤ 140737488351232) (hml : ∀ m, m ∈ ms → m.length ≤ 140737488351232) (h : Rd w p 1 vs) (hr : ∀ (i : Nat) v m, vs[i]? = some v → ms[i]? = some m → Rd w v 1 (ints .u8 m)) : Calls Try.prog 7 #[.agg (ints .u8 (s)).toArray, .int .i64 u, p] w (PostV w (.bool true)) := by
  refine calls_at (vs := [.agg (ints .u8 (s)).toArray, .int .i64 u, p]) (X := []) (H := []) (F := [(21, .rows (Ks.rowsB vs ms)), (20, .sl p 1 vs)]) 81 Try.func7 rfl rfl rfl ((Sat.rd0 20 h).read (f := .rows (Ks.rowsB vs ms)) 21 (Ks.rowsB_rd hr) off_nil) ?_
  refine cd_seq ?_
  refine cd_region ?_
  refine st_box (h := 3) rfl rfl rfl rfl (fun b3 => ?_)
  refine st (ev_assign rfl) rfl rfl rfl ?_
  refine op_nil ?_
  refine ax_then ?_
  refine At.regs (L' := [(1, _), (2, _), (3, _), (6, _)]) (.cons rfl (.cons rfl (.cons rfl (.cons rfl (.nil _))))) ?_
  refine cd_seq ?_
  refine cd_seq ?_
  refine cd_region ?_
  refine st (ev_move rfl) rfl rfl rfl ?_
  refine st (ev_len_rd (h := 20) (n := vs.length) Try.underlying47 rfl rfl (Nat.mul_one _).symm (by decide)) rfl rfl rfl ?_
  refine st (ev_gtr rfl rfl) rfl rfl rfl ?_
  refine st (ev_move rfl) rfl rfl rfl ?_
  refine at_split_if (i := 17) rfl (fun hg17 => ?_) (fun hg17 => ?_)
  ·
    refine st_skip rfl rfl rfl ?_
    refine st_skip rfl rfl rfl ?_
    refine st (ev_pick_t rfl rfl) rfl rfl rfl ?_
    refine op_nil ?_
    refine ax_then ?_
    refine At.regs (L' := [(1, _), (2, _), (3, _), (6, _), (20, _)]) (.cons rfl (.cons rfl (.cons rfl (.cons rfl (.cons rfl (.nil _)))))) ?_
    refine cd_true rfl ?_
    refine cd_seq ?_
    refine cd_region ?_
    refine st (ev_assign rfl) rfl rfl rfl ?_
    refine op_nil ?_
    refine ax_then ?_
    refine At.regs (L' := [(1, _), (2, _), (3, _), (6, _)]) (.cons rfl (.cons rfl (.cons rfl (.cons rfl (.nil _))))) ?_
    refine cd_ret ?_
    refine ax_then_ret ?_
    refine rt_tmp (.inl rfl) Try.results7 rfl ?_
    exact fun w1 sw => ⟨rfl, sw.gives (.nil _)⟩
  ·
    refine st (ev_move rfl) rfl rfl rfl ?_
    refine st_call has25 rfl (fun w1 sw => long_any p vs ms w1 hlen hvl hml (sw.sl_rd (h := 20) rfl) (fun i v m hv hm => (hr i v m hv hm).keep (fun b hb _ _ => sw.old b hb (by simp)))) nil_all rfl rfl (fun bl _ => ?_)
    refine st (ev_pick_f rfl rfl) rfl rfl rfl ?_
    refine op_nil ?_
    refine ax_then ?_
    refine At.regs (L' := [(1, _), (2, _), (3, _), (6, _), (20, _)]) (.cons rfl (.cons rfl (.cons rfl (.cons rfl (.cons rfl (.nil _)))))) ?_
    refine cd_cond rfl (fun hc20 => ?_) (fun hc20 => ?_)
    ·
      refine cd_seq ?_
      refine cd_region ?_
      refine st (ev_assign rfl) rfl rfl rfl ?_
      refine op_nil ?_
      refine ax_then ?_
      refine At.regs (L' := [(1, _), (2, _), (3, _), (6, _)]) (.cons rfl (.cons rfl (.cons rfl (.cons rfl (.nil _))))) ?_
      refine cd_ret ?_
      refine ax_then_ret ?_
      refine rt_tmp (.inl rfl) Try.results7 rfl ?_
      exact fun w1 sw => ⟨rfl, sw.gives (.nil _)⟩
    ·
      refine cd_skip ?_
      refine ax_then ?_
      refine At.regs (L' := [(1, _), (2, _), (3, _), (6, _)]) (.cons rfl (.cons rfl (.cons rfl (.cons rfl (.nil _))))) ?_
      refine cd_seq ?_
      obtain ⟨n0, hn0⟩ : ∃ n0 : Nat, Ky.clamp u = ((n0 : Nat) : Int) := Int.eq_ofNat_of_zero_le (Ky.clamp_range u).1
      have hn16 : n0 ≤ 16 := by have := (Ky.clamp_range u).2; omega
      refine at_freeze_blk (h := 3) (H' := []) 5 rfl (.nil _) rfl ?_
      refine cd_mix hmix ?_
      refine mx (i := 0) rfl (by decide +kernel) (by decide +kernel) (by decide +kernel) rfl (fun w0 => ld_mem_all (h := 5) ty39 rfl rfl rfl (by rw [ints_length]; exact hl)) rfl rfl (Sub.refl _) ?_
      refine mx (i := 1) rfl (by decide +kernel) (by decide +kernel) (by decide +kernel) rfl (fun w0 => ev_move rfl) rfl rfl (Sub.refl _) ?_
      refine mx (i := 3) rfl (by decide +kernel) (by decide +kernel) (by decide +kernel) rfl (fun w0 => ld_mem_all (h := 5) ty39 rfl rfl rfl (by rw [ints_length]; exact hl)) rfl rfl (Sub.refl _) ?_
      refine mx (i := 4) rfl (by decide +kernel) (by decide +kernel) (by decide +kernel) rfl (fun w0 => ev_move rfl) rfl rfl (Sub.refl _) ?_
      refine mx_one (i := 2) (by decide +kernel) (Sub.refl _) ?_
      refine wo (i := 2) rfl ?_
      refine st_call has26 rfl (fun w1 sw => rn2 23 123 (new_any s u w1 hl)) nil_all rfl rfl (fun x23 _ => ?_)
      obtain ⟨b23, lv23⟩ := x23
      dsimp only
      refine at_heq (i := 23) (v' := .blk (b23) (.cells (Ky.cells s lv23 ((n0 : Nat) : Int)).toArray 81)) rfl (by rw [hn0]) ?_
      refine op_nil ?_
      refine ax_then ?_
      refine mx_one (i := 5) (by decide +kernel) (Sub.refl _) ?_
      refine wo (i := 5) rfl ?_
      refine st_call has27 rfl (fun w1 sw => rn2 26 126 (rnew_any s u w1 hl)) nil_all rfl rfl (fun x26 _ => ?_)
      obtain ⟨b26, lv26⟩ := x26
      dsimp only
      refine at_heq (i := 26) (v' := .blk (b26) (.cells (Ky.rcells s lv26 (Ky.keyPub s) ((n0 : Nat) : Int)).toArray 55)) rfl (by rw [hn0]) ?_
      refine op_nil ?_
      refine ax_then ?_
      refine mx (i := 6) rfl (by decide +kernel) (by decide +kernel) (by decide +kernel) rfl (fun w0 => ev_assign rfl) rfl rfl (Sub.refl _) ?_
      refine mx (i := 7) rfl (by decide +kernel) (by decide +kernel) (by decide +kernel) rfl (fun w0 => ev_assign rfl) rfl rfl (Sub.refl _) ?_
      refine mx_done (by decide +kernel) (Sub.refl _) ?_
      refine ax_then ?_
      refine At.regs (L' := [(2, _), (6, _), (7, _), (8, _)]) (.cons rfl (.cons rfl (.cons rfl (.cons rfl (.nil _))))) ?_
      refine cd_seq ?_
      refine cd_seq ?_
      refine cd_mixp [(300, .mem b26 0 (Ky.rcells s lv26 (Ky.keyPub s) ((n0 : Nat) : Int)))] hmix ?_
      refine mxp (i := 0) rfl (by decide +kernel) (by decide +kernel) (by decide +kernel) rfl (fun w0 => ev_move rfl) rfl rfl (fun w sw => CF.cons (lies_blk (sw.blk_eq (h := 26) rfl)) (sw.cf (.nil _))) ?_
      refine mxp (i := 1) rfl (by decide +kernel) (by decide +kernel) (by decide +kernel) rfl (fun w0 => ev_eql_ptr_nil Try.underlying49 rfl rfl) rfl rfl (fun w sw => CF.cons (lies_blk (sw.blk_eq (h := 26) rfl)) (sw.cf (.nil _))) ?_
      refine mxp (i := 2) rfl (by decide +kernel) (by decide +kernel) (by decide +kernel) rfl (fun w0 => ev_move rfl) rfl rfl (fun w sw => CF.cons (lies_blk (sw.blk_eq (h := 26) rfl)) (sw.cf (.nil _))) ?_
      refine mxp (i := 3) rfl (by decide +kernel) (by decide +kernel) (by decide +kernel) rfl (fun w0 => ev_move rfl) rfl rfl (fun w sw => CF.cons (lies_blk (sw.blk_eq (h := 26) rfl)) (sw.cf (.nil _))) ?_
      refine mxp (i := 5) rfl (by decide +kernel) (by decide +kernel) (by decide +kernel) rfl (fun w0 => ev_move rfl) rfl rfl (fun w sw => CF.cons (lies_blk (sw.blk_eq (h := 26) rfl)) (sw.cf (.nil _))) ?_
      refine mxp (i := 6) rfl (by decide +kernel) (by decide +kernel) (by decide +kernel) rfl (fun w0 => ev_nilCheck rfl) rfl rfl (fun w sw => CF.cons (lies_blk (sw.blk_eq (h := 26) rfl)) (sw.cf (.nil _))) ?_
      refine mxp (i := 7) rfl (by decide +kernel) (by decide +kernel) (by decide +kernel) rfl (fun w0 => ev_fieldAddr (b := _) Try.underlying55 (f := _) rfl ty39 (by decide) rfl) rfl rfl (fun w sw => CF.cons (lies_blk (sw.blk_eq (h := 26) rfl)) (sw.cf (.nil _))) ?_
      refine mxp (i := 8) rfl (by decide +kernel) (by decide +kernel) (by decide +kernel) rfl (fun w0 => ld_mem (h := 300) (k := 33) ty39 rfl rfl rfl rfl (by rw [Ky.rcells_len hl (Ky.keyPub_len _)]; decide)) rfl rfl (fun w sw => CF.cons (lies_blk (sw.blk_eq (h := 26) rfl)) (sw.cf (.nil _))) ?_
      refine at_eq (i := 35) (v' := .agg (ints .u8 (Ky.keyPub s)).toArray) rfl (congrArg (fun x => Value.agg (List.toArray x)) (Ky.rcells_pub hl (Ky.keyPub_len _) _ _)) ?_
      refine mxp_one (i := 4) (by decide +kernel) (fun w sw => CF.cons (lies_blk (sw.blk_eq (h := 26) rfl)) (sw.cf (.nil _))) ?_
      refine wo (i := 4) rfl ?_
      refine st_callv has28 rfl (fun w1 sw => pubkey_any b23 lv23 s n0 w1 hl (lies_blk (sw.blk_eq (h := 23) rfl)) (sw.own_rd (h := 123) rfl)) rfl rfl ?_
      refine op_nil ?_
      refine ax_then ?_
      refine mxp (i := 9) rfl (by decide +kernel) (by decide +kernel) (by decide +kernel) rfl (fun w0 => ev_neq_arr Try.underlying39 ty5 eqg39 rfl rfl (by first | omega | (simp only [List.length_append, List.length_cons, List.length_nil, List.length_set, List.length_replicate, List.length_take, List.length_drop, ints_length, wr_length, sha_len, node_len, recov_len, Ky.named_len, Ky.keyPub_len, Ky.hashOf_len] <;> omega) | rfl) (by first | omega | (simp only [List.length_append, List.length_cons, List.length_nil, List.length_set, List.length_replicate, List.length_take, List.length_drop, ints_length, wr_length, sha_len, node_len, recov_len, Ky.named_len, Ky.keyPub_len, Ky.hashOf_len] <;> omega) | rfl)) rfl rfl (fun w sw => CF.cons (lies_blk (sw.blk_eq (h := 26) rfl)) (sw.cf (.nil _))) ?_
      refine mxp (i := 10) rfl (by decide +kernel) (by decide +kernel) (by decide +kernel) rfl (fun w0 => ev_pick_f rfl rfl) rfl rfl (fun w sw => CF.cons (lies_blk (sw.blk_eq (h := 26) rfl)) (sw.cf (.nil _))) ?_
      refine mxp_done (by decide +kernel) (fun w sw => CF.cons (lies_blk (sw.blk_eq (h := 26) rfl)) (sw.cf (.nil _))) ?_
      refine ax_then ?_
      refine At.regs (L' := [(2, _), (6, _), (7, _), (8, _), (37, _)]) (.cons rfl (.cons rfl (.cons rfl (.cons rfl (.cons rfl (.nil _)))))) ?_
      refine cd_if_f rfl (fun h => h rfl) ?_
      refine cd_skip ?_
      refine ax_then ?_
      refine At.regs (L' := [(2, _), (6, _), (7, _), (8, _)]) (.cons rfl (.cons rfl (.cons rfl (.cons rfl (.nil _))))) ?_
      refine cd_seq ?_
      refine cd_seq ?_
      refine cd_region ?_
      refine st (ev_assign rfl) rfl rfl rfl ?_
      refine op_nil ?_
      refine ax_then ?_
      refine At.regs (L' := [(2, _), (6, _), (7, _), (8, _), (9, _)]) (.cons rfl (.cons rfl (.cons rfl (.cons rfl (.cons rfl (.nil _)))))) ?_
      refine cd_block ?_
      refine cd_loop (ι := Nat × Nat) (fun x => x.1 ≤ vs.length ∧ x.2 ≤ 16) (fun x => vs.length - x.1)
          (fun x => [(2, p), (7, .pointer (some ⟨b23, 0, none⟩)), (8, .pointer (some ⟨b26, 0, none⟩)), (9, .int .i64 (x.1 : Int))])
          (fun x => [(23, .blk (b23) (.cells (Ky.cells s lv23 ((x.2 : Nat) : Int)).toArray 81)), (26, .blk (b26) (.cells (Ky.rcells s lv26 (Ky.keyPub s) ((x.2 : Nat) : Int)).toArray 55)), (123, .own (lv23) 39 32 (flat (Ky.leaves s 16))), (126, .own (lv26) 39 32 (flat (Ky.leaves s 16)))])
          (fun x => [(20, .sl p 1 vs), (21, .rows (Ks.rowsB vs ms))])
          (0, n0) (⟨by omega, hn16⟩) (.cons rfl (.cons rfl (.cons rfl (.cons rfl (.nil _))))) (.cons rfl (.cons rfl (.cons rfl (.cons rfl (.nil _))))) (.cons rfl (.cons rfl (.nil _))) (fun x hi => ?_)
      obtain ⟨i, n⟩ := x
      dsimp only at hi ⊢
      have hi1 := hi.1
      refine cd_seq ?_
      refine cd_seq ?_
      refine cd_region ?_
      refine st (ev_move rfl) rfl rfl rfl ?_
      refine st (ev_move rfl) rfl rfl rfl ?_
      refine st (ev_len_rd (h := 20) (n := vs.length) Try.underlying47 rfl rfl (Nat.mul_one _).symm (by decide)) rfl rfl rfl ?_
      refine st (ev_lss rfl rfl) rfl rfl rfl ?_
      refine op_nil ?_
      refine ax_then ?_
      refine At.regs (L' := [(2, _), (7, _), (8, _), (9, _), (38, _), (39, _), (40, _), (41, _)]) (.cons rfl (.cons rfl (.cons rfl (.cons rfl (.cons rfl (.cons rfl (.cons rfl (.cons rfl (.nil _))))))))) ?_
      refine cd_if rfl (fun hc41 => ?_) (fun hc41 => ?_)
      ·
        have hlt : i < vs.length := by omega
        have hmi : (ms.getD i []).length ≤ 140737488351232 := hml _ (by rw [List.getD_eq_getElem?_getD, List.getElem?_eq_getElem (by omega)]; exact List.getElem_mem _)
        refine cd_skip ?_
        refine ax_then ?_
        refine At.regs (L' := [(2, _), (7, _), (8, _), (9, _), (38, _), (39, _), (40, _), (41, _)]) (.cons rfl (.cons rfl (.cons rfl (.cons rfl (.cons rfl (.cons rfl (.cons rfl (.cons rfl (.nil _))))))))) ?_
        refine cd_seq ?_
        refine cd_block ?_
        refine cd_seq ?_
        refine cd_region ?_
        refine st (ev_move rfl) rfl rfl rfl ?_
        refine st (ev_move rfl) rfl rfl rfl ?_
        refine st (ev_move rfl) rfl rfl rfl ?_
        refine st (ev_indexAddr_rd (h := 20) (n := vs.length) Try.underlying47 ty22 rfl rfl rfl (Nat.mul_one _).symm (by decide) (by omega) (by omega)) rfl rfl rfl ?_
        refine st (ld_rd1 (h := 20) ty22 rfl rfl rfl (Ks.getD_some hlt)) rfl rfl rfl ?_
        refine st_call has29 rfl (fun w1 sw => rn3 23 401 402 (signG_any b23 lv23 (vs.getD i (.slice none 0 0)) s (ms.getD i []) n w1 hl (by omega) (sw.blk_eq (h := 23) rfl) (sw.own_rd (h := 123) rfl) (sw.own_off (h := 23) (h' := 123) rfl rfl (by decide)) (sw.row (i := 21) rfl (Ks.rowsB_mem hlen hlt)) (sw.off 21 _ 23 _ rfl rfl _ (by simp [Ent.ids]) _ (Ks.rowsB_mem hlen hlt)))) (mod_blk3 rfl) rfl rfl (fun x50 _ => ?_)
        obtain ⟨va50, vb50⟩ := x50
        dsimp only
        refine at_own_shape (h := 401) rfl (fun hsa50 => ?_)
        refine at_own_shape (h := 402) rfl (fun hsb50 => ?_)
        refine st (ev_move rfl) rfl rfl rfl ?_
        refine st (ev_extract rfl rfl) rfl rfl rfl ?_
        refine st (ev_extract rfl rfl) rfl rfl rfl ?_
        refine st_alloc (h := 10) ty42 rfl rfl rfl (fun b10 => ?_)
        refine st_store_all 10 ty42 rfl rfl rfl rfl rfl (by intro u hu; simp at hu; rcases hu with rfl | rfl | rfl; rfl; exact hsa50.2; exact hsb50.2) rfl rfl ?_
        refine st (ev_assign rfl) rfl rfl rfl ?_
        refine op_nil ?_
        refine ax_then ?_
        refine At.regs (L' := [(2, _), (7, _), (8, _), (9, _), (10, _), (11, _), (38, _), (39, _), (40, _), (41, _), (44, _), (45, _), (46, _), (47, _), (48, _), (49, _), (50, _), (51, _), (52, _)]) (.cons rfl (.cons rfl (.cons rfl (.cons rfl (.cons rfl (.cons rfl (.cons rfl (.cons rfl (.cons rfl (.cons rfl (.cons rfl (.cons rfl (.cons rfl (.cons rfl (.cons rfl (.cons rfl (.cons rfl (.cons rfl (.cons rfl (.nil _)))))))))))))))))))) ?_
        refine cd_seq ?_
        refine cd_region ?_
        refine st (ev_move rfl) rfl rfl rfl ?_
        refine st (ev_move rfl) rfl rfl rfl ?_
        refine st (ev_move rfl) rfl rfl rfl ?_
        refine st (ev_indexAddr_rd (h := 20) (n := vs.length) Try.underlying47 ty22 rfl rfl rfl (Nat.mul_one _).symm (by decide) (by omega) (by omega)) rfl rfl rfl ?_
        refine st (ld_rd1 (h := 20) ty22 rfl rfl rfl (Ks.getD_some hlt)) rfl rfl rfl ?_
        refine st_call has30 rfl (fun w1 sw => rn3 26 411 412 (qsignG_any b26 lv26 (vs.getD i (.slice none 0 0)) s (ms.getD i []) n w1 hl (by omega) (sw.blk_eq (h := 26) rfl) (sw.own_rd (h := 126) rfl) (sw.own_off (h := 26) (h' := 126) rfl rfl (by decide)) (sw.row (i := 21) rfl (Ks.rowsB_mem hlen hlt)) (sw.off 21 _ 26 _ rfl rfl _ (by simp [Ent.ids]) _ (Ks.rowsB_mem hlen hlt)))) (mod_blk3 rfl) rfl rfl (fun x59 _ => ?_)
        obtain ⟨va59, vb59⟩ := x59
        dsimp only
        refine at_own_shape (h := 411) rfl (fun hsa59 => ?_)
        refine at_own_shape (h := 412) rfl (fun hsb59 => ?_)
        refine st (ev_move rfl) rfl rfl rfl ?_
        refine st (ev_extract rfl rfl) rfl rfl rfl ?_
        refine st (ev_extract rfl rfl) rfl rfl rfl ?_
        refine st_alloc (h := 12) ty42 rfl rfl rfl (fun b12 => ?_)
        refine st_store_all 12 ty42 rfl rfl rfl rfl rfl (by intro u hu; simp at hu; rcases hu with rfl | rfl | rfl; rfl; exact hsa59.2; exact hsb59.2) rfl rfl ?_
        refine st (ev_assign rfl) rfl rfl rfl ?_
        refine op_nil ?_
        refine ax_then ?_
        refine At.regs (L' := [(2, _), (7, _), (8, _), (9, _), (10, _), (11, _), (12, _), (13, _), (38, _), (39, _), (40, _), (41, _), (44, _), (45, _), (46, _), (47, _), (48, _), (49, _), (50, _), (51, _), (52, _), (53, _), (54, _), (55, _), (56, _), (57, _), (58, _), (59, _), (60, _), (61, _)]) (.cons rfl (.cons rfl (.cons rfl (.cons rfl (.cons rfl (.cons rfl (.cons rfl (.cons rfl (.cons rfl (.cons rfl (.cons rfl (.cons rfl (.cons rfl (.cons rfl (.cons rfl (.cons rfl (.cons rfl (.cons rfl (.cons rfl (.cons rfl (.cons rfl (.cons rfl (.cons rfl (.cons rfl (.cons rfl (.cons rfl (.cons rfl (.cons rfl (.cons rfl (.cons rfl (.nil _))))))))))))))))))))))))))))))) ?_
        refine cd_seq ?_
        refine at_freeze_blk (h := 10) (H' := [(12, _), (23, _), (123, _), (26, _), (126, _), (401, _), (402, _), (411, _), (412, _)]) 27 rfl (.cons rfl (.cons rfl (.cons rfl (.cons rfl (.cons rfl (.cons rfl (.cons rfl (.cons rfl (.cons rfl (.nil _)))))))))) rfl ?_
        refine at_freeze_blk (h := 12) (H' := [(23, _), (123, _), (26, _), (126, _), (401, _), (402, _), (411, _), (412, _)]) 28 rfl (.cons rfl (.cons rfl (.cons rfl (.cons rfl (.cons rfl (.cons rfl (.cons rfl (.cons rfl (.nil _))))))))) rfl ?_
        have hcl := Ks.cs_len s n (ms.getD i [])
        have hpl := Ks.ps_len s n
        refine cd_mixp [(300, .mem b26 0 (Ky.rcells s lv26 (Ky.keyPub s) ((Ks.nxt n : Nat) : Int))), (27, .mem b10 0 [.int .i64 (Ks.leaf n), va50, vb50]), (28, .mem b12 0 [.int .i64 (Ks.leaf n), va59, vb59])] hmix ?_
        refine mxp (i := 0) rfl (by decide +kernel) (by decide +kernel) (by decide +kernel) rfl (fun w0 => ld_mem_all (h := 27) ty42 rfl rfl rfl rfl) rfl rfl (fun w sw => CF.cons (lies_blk (sw.blk_eq (h := 26) rfl)) (sw.cf (.cons rfl (.cons rfl (.nil _))))) ?_
        refine mxp (i := 1) rfl (by decide +kernel) (by decide +kernel) (by decide +kernel) rfl (fun w0 => ld_mem_all (h := 28) ty42 rfl rfl rfl rfl) rfl rfl (fun w sw => CF.cons (lies_blk (sw.blk_eq (h := 26) rfl)) (sw.cf (.cons rfl (.cons rfl (.nil _))))) ?_
        refine mxp_one (i := 2) (by decide +kernel) (fun w sw => CF.cons (lies_blk (sw.blk_eq (h := 26) rfl)) (sw.cf (.cons rfl (.cons rfl (.nil _))))) ?_
        refine wo (i := 2) rfl ?_
        refine st_callv has31 rfl (fun w1 sw => rsame5_any (Ks.leaf n) (Ks.leaf n) va50 vb50 va59 vb59 (Ks.cs s n (ms.getD i [])) (Ks.ps s n) (Ks.cs s n (ms.getD i [])) (Ks.ps s n) w1 (Ks.cs_h32 _ _ _) (Ks.ps_h32 _ _) (Ks.cs_h32 _ _ _) (Ks.ps_h32 _ _) (by omega) (by omega) (by omega) (by omega) (sw.own_rd (h := 401) rfl) (sw.own_rd (h := 402) rfl) (sw.own_rd (h := 411) rfl) (sw.own_rd (h := 412) rfl)) rfl rfl ?_
        refine op_nil ?_
        refine ax_then ?_
        refine mxp (i := 3) rfl (by decide +kernel) (by decide +kernel) (by decide +kernel) rfl (fun w0 => ev_not_if rfl) rfl rfl (fun w sw => CF.cons (lies_blk (sw.blk_eq (h := 26) rfl)) (sw.cf (.cons rfl (.cons rfl (.nil _))))) ?_
        refine mxp (i := 4) rfl (by decide +kernel) (by decide +kernel) (by decide +kernel) rfl (fun w0 => ev_move rfl) rfl rfl (fun w sw => CF.cons (lies_blk (sw.blk_eq (h := 26) rfl)) (sw.cf (.cons rfl (.cons rfl (.nil _))))) ?_
        refine at_eq (i := 66) (v' := .bool false) rfl (by rw [decide_eq_false (fun h => h ⟨rfl, rfl, rfl⟩)]) ?_
        refine mxp (i := 5) rfl (by decide +kernel) (by decide +kernel) (by decide +kernel) rfl (fun w0 => ev_move rfl) rfl rfl (fun w sw => CF.cons (lies_blk (sw.blk_eq (h := 26) rfl)) (sw.cf (.cons rfl (.cons rfl (.nil _))))) ?_
        refine mxp (i := 6) rfl (by decide +kernel) (by decide +kernel) (by decide +kernel) rfl (fun w0 => ev_move rfl) rfl rfl (fun w sw => CF.cons (lies_blk (sw.blk_eq (h := 26) rfl)) (sw.cf (.cons rfl (.cons rfl (.nil _))))) ?_
        refine mxp (i := 7) rfl (by decide +kernel) (by decide +kernel) (by decide +kernel) rfl (fun w0 => ev_neq rfl rfl) rfl rfl (fun w sw => CF.cons (lies_blk (sw.blk_eq (h := 26) rfl)) (sw.cf (.cons rfl (.cons rfl (.nil _))))) ?_
        refine mxp (i := 8) rfl (by decide +kernel) (by decide +kernel) (by decide +kernel) rfl (fun w0 => ev_pick_f rfl rfl) rfl rfl (fun w sw => CF.cons (lies_blk (sw.blk_eq (h := 26) rfl)) (sw.cf (.cons rfl (.cons rfl (.nil _))))) ?_
        refine mxp (i := 9) rfl (by decide +kernel) (by decide +kernel) (by decide +kernel) rfl (fun w0 => ev_move rfl) rfl rfl (fun w sw => CF.cons (lies_blk (sw.blk_eq (h := 26) rfl)) (sw.cf (.cons rfl (.cons rfl (.nil _))))) ?_
        refine at_eq (i := 71) (v' := .bool false) rfl (by rw [decide_eq_false (fun h => h rfl)]) ?_
        refine mxp (i := 10) rfl (by decide +kernel) (by decide +kernel) (by decide +kernel) rfl (fun w0 => ev_move rfl) rfl rfl (fun w sw => CF.cons (lies_blk (sw.blk_eq (h := 26) rfl)) (sw.cf (.cons rfl (.cons rfl (.nil _))))) ?_
        refine mxp (i := 12) rfl (by decide +kernel) (by decide +kernel) (by decide +kernel) rfl (fun w0 => ev_move rfl) rfl rfl (fun w sw => CF.cons (lies_blk (sw.blk_eq (h := 26) rfl)) (sw.cf (.cons rfl (.cons rfl (.nil _))))) ?_
        refine mxp (i := 13) rfl (by decide +kernel) (by decide +kernel) (by decide +kernel) rfl (fun w0 => ev_nilCheck rfl) rfl rfl (fun w sw => CF.cons (lies_blk (sw.blk_eq (h := 26) rfl)) (sw.cf (.cons rfl (.cons rfl (.nil _))))) ?_
        refine mxp (i := 14) rfl (by decide +kernel) (by decide +kernel) (by decide +kernel) rfl (fun w0 => ev_fieldAddr (b := _) Try.underlying55 (f := _) rfl ty3 (by decide) rfl) rfl rfl (fun w sw => CF.cons (lies_blk (sw.blk_eq (h := 26) rfl)) (sw.cf (.cons rfl (.cons rfl (.nil _))))) ?_
        refine mxp (i := 15) rfl (by decide +kernel) (by decide +kernel) (by decide +kernel) rfl (fun w0 => ld_mem1 (h := 300) (k := 65) ty3 rfl rfl rfl rfl (Ky.rcells_65 hl (Ky.keyPub_len _) _ _)) rfl rfl (fun w sw => CF.cons (lies_blk (sw.blk_eq (h := 26) rfl)) (sw.cf (.cons rfl (.cons rfl (.nil _))))) ?_
        refine mxp_one (i := 11) (by decide +kernel) (fun w sw => CF.cons (lies_blk (sw.blk_eq (h := 26) rfl)) (sw.cf (.cons rfl (.cons rfl (.nil _))))) ?_
        refine wo (i := 11) rfl ?_
        refine st_callv has32 rfl (fun w1 sw => used_any b23 lv23 s (Ks.nxt n) w1 hl (lies_blk (sw.blk_eq (h := 23) rfl)) (sw.own_rd (h := 123) rfl)) rfl rfl ?_
        refine op_nil ?_
        refine ax_then ?_
        refine mxp (i := 16) rfl (by decide +kernel) (by decide +kernel) (by decide +kernel) rfl (fun w0 => ev_neq rfl rfl) rfl rfl (fun w sw => CF.cons (lies_blk (sw.blk_eq (h := 26) rfl)) (sw.cf (.cons rfl (.cons rfl (.nil _))))) ?_
        refine mxp (i := 17) rfl (by decide +kernel) (by decide +kernel) (by decide +kernel) rfl (fun w0 => ev_pick_f rfl rfl) rfl rfl (fun w sw => CF.cons (lies_blk (sw.blk_eq (h := 26) rfl)) (sw.cf (.cons rfl (.cons rfl (.nil _))))) ?_
        refine mxp_done (by decide +kernel) (fun w sw => CF.cons (lies_blk (sw.blk_eq (h := 26) rfl)) (sw.cf (.cons rfl (.cons rfl (.nil _))))) ?_
        refine ax_then ?_
        refine At.regs (L' := [(2, _), (7, _), (8, _), (9, _), (10, _), (11, _), (12, _), (13, _), (38, _), (39, _), (40, _), (41, _), (44, _), (45, _), (46, _), (47, _), (48, _), (49, _), (50, _), (51, _), (52, _), (53, _), (54, _), (55, _), (56, _), (57, _), (58, _), (59, _), (60, _), (61, _), (62, _), (63, _), (64, _), (65, _), (66, _), (67, _), (68, _), (69, _), (70, _), (71, _), (72, _), (73, _), (74, _), (75, _), (76, _), (77, _), (78, _), (79, _)]) (.cons rfl (.cons rfl (.cons rfl (.cons rfl (.cons rfl (.cons rfl (.cons rfl (.cons rfl (.cons rfl (.cons rfl (.cons rfl (.cons rfl (.cons rfl (.cons rfl (.cons rfl (.cons rfl (.cons rfl (.cons rfl (.cons rfl (.cons rfl (.cons rfl (.cons rfl (.cons rfl (.cons rfl (.cons rfl (.cons rfl (.cons rfl (.cons rfl (.cons rfl (.cons rfl (.cons rfl (.cons rfl (.cons rfl (.cons rfl (.cons rfl (.cons rfl (.cons rfl (.cons rfl (.cons rfl (.cons rfl (.cons rfl (.cons rfl (.cons rfl (.cons rfl (.cons rfl (.cons rfl (.cons rfl (.cons rfl (.nil _))))))))))))))))))))))))))))))))))))))))))))))))) ?_
        refine cd_if_f rfl (fun h => h rfl) ?_
        refine cd_skip ?_
        refine ax_block ?_
        refine ax_then ?_
        refine At.regs (L' := [(2, _), (7, _), (8, _), (9, _), (10, _), (11, _), (12, _), (13, _), (38, _), (39, _), (40, _), (41, _), (44, _), (45, _), (46, _), (47, _), (48, _), (49, _), (50, _), (51, _), (52, _), (53, _), (54, _), (55, _), (56, _), (57, _), (58, _), (59, _), (60, _), (61, _), (62, _), (63, _), (64, _), (65, _), (66, _), (67, _), (68, _), (69, _), (70, _), (71, _), (72, _), (73, _), (74, _), (75, _), (76, _), (77, _), (78, _), (79, _)]) (.cons rfl (.cons rfl (.cons rfl (.cons rfl (.cons rfl (.cons rfl (.cons rfl (.cons rfl (.cons rfl (.cons rfl (.cons rfl (.cons rfl (.cons rfl (.cons rfl (.cons rfl (.cons rfl (.cons rfl (.cons rfl (.cons rfl (.cons rfl (.cons rfl (.cons rfl (.cons rfl (.cons rfl (.cons rfl (.cons rfl (.cons rfl (.cons rfl (.cons rfl (.cons rfl (.cons rfl (.cons rfl (.cons rfl (.cons rfl (.cons rfl (.cons rfl (.cons rfl (.cons rfl (.cons rfl (.cons rfl (.cons rfl (.cons rfl (.cons rfl (.cons rfl (.cons rfl (.cons rfl (.cons rfl (.cons rfl (.nil _))))))))))))))))))))))))))))))))))))))))))))))))) ?_
        refine cd_region ?_
        refine st (ev_move rfl) rfl rfl rfl ?_
        refine st (ev_add64 rfl rfl (by omega) (by omega)) rfl rfl rfl ?_
        refine st (ev_assign rfl) rfl rfl rfl ?_
        refine op_nil ?_
        exact at_again ((i + 1, Ks.nxt n)) (⟨by show i + 1 ≤ vs.length; omega, Ks.nxt_le hi.2⟩) (by omega) (.cons rfl (.cons rfl (.cons rfl (.cons rfl (.nil _))))) (.cons rfl (.cons rfl (.cons rfl (.cons rfl (.nil _))))) (.cons rfl (.cons rfl (.nil _)))
      ·
        refine cd_exit ?_
        refine ax_then_exit ?_
        refine ax_then_exit ?_
        refine ax_block_hit ?_
        refine ax_then ?_
        refine At.regs (L' := []) (.nil _) ?_
        refine cd_seq ?_
        refine cd_region ?_
        refine st_callv has33 rfl (fun w1 sw => known5_any w1) rfl rfl ?_
        refine st (ev_assign rfl) rfl rfl rfl ?_
        refine op_nil ?_
        refine ax_then ?_
        refine At.regs (L' := [(6, _)]) (.cons rfl (.nil _)) ?_
        refine cd_ret ?_
        refine rt_tmp (.inl rfl) Try.results7 rfl ?_
        exact fun w1 sw => ⟨rfl, sw.gives (.nil _)⟩
end Go.Proofs.Yteedclmcgifmpaa

namespace Go.Proofs.Yteedclmcgifmpaa.Fw
open Go Go.RowKit Go.WideShapes Go.ChangeShapes
set_option linter.unusedVariables false
set_option linter.unusedSimpArgs false
section
variable {H : Type} {enc : TypeId × Value → H} {P : Program} {W : World}
theorem ok_or {t e : TypeId} {v : Value} (ht : P.underlying t = some (.slice e)) (he : 0 < P.cellsOf e) (h : Tr enc P W t [v]) : OkS v ∨ ∃ a cap, v = .slice (some a) 0 cap := by
  obtain ⟨fuel, d, ps, hf, hw⟩ := h
  rcases DataW.trod_slice ht hf with ⟨hc, _⟩ | ⟨a, len', cap', elems, rest, n, rfl, hc, hdd, hb, hl, hm, hlen, hel, _⟩
  · simp at hc
    exact .inl ⟨none, 0, 0, hc, Nat.le_refl _, fun _ => rfl, fun x hx => by cases hx⟩
  · simp at hc
    rcases Nat.eq_zero_or_pos len' with h0 | h0
    · subst h0
      exact .inr ⟨a, cap', hc⟩
    · refine .inl ⟨some a, len', cap', hc, hl, (fun hn => by cases hn), fun x hx => ?_⟩
      cases hx
      have h1 := hel 0 h0
      have hx : ∃ x, elems[0]? = some x := ⟨elems[0]'(by omega), List.getElem?_eq_getElem (by omega)⟩
      obtain ⟨x, hx⟩ := hx
      rw [hx] at h1
      obtain ⟨cs, h4, _⟩ := Option.bind_eq_some_iff.1 h1
      obtain ⟨_, h5, h6⟩ := World.cells?_some h4
      have h7 := h6 0 (by omega)
      have e1 : (a.add (0 * P.cellsOf e)).add 0 = a := by rw [Nat.zero_mul]; rfl
      rw [e1] at h7
      rw [List.getElem?_eq_getElem (by omega : 0 < cs.length)] at h7
      apply Classical.byContradiction
      intro hs
      unfold World.cell? at h7
      split at h7
      · rw [if_pos (by cases hsp : a.spot with | none => exact absurd hsp hs | some y => rfl)] at h7
        cases h7
      · cases h7
/-- A slice, opened, wherever it lies. -/
theorem rd_tr2 {t e : TypeId} {v : Value} (ht : P.underlying t = some (.slice e)) (he : 0 < P.cellsOf e) (h : Tr enc P W t [v]) :
    ∃ (l : List Value) (n : Nat), Rd W v (P.cellsOf e) l ∧ l.length = n * P.cellsOf e ∧ n * P.bytesOf e ≤ reachBytes ∧ ∀ i, i < n → Tr enc P W e ((l.drop (i * P.cellsOf e)).take (P.cellsOf e)) := by
  rcases ok_or ht he h with hok | ⟨a, cap, rfl⟩
  · exact rd_tr ht he hok h
  · exact ⟨[], 0, ⟨some a, 0, cap, rfl, by simp, Nat.zero_le _, (fun hn => by cases hn), fun x hx => ⟨fun hp => by simp at hp, fun i hi => by simp at hi⟩⟩, by simp, by simp, fun i hi => by omega⟩
theorem rd_ints2 {t e : TypeId} {k : IntKind} {v : Value} (ht : P.underlying t = some (.slice e)) (he : P.underlying e = some (.int k)) (hc : P.cellsOf e = 1) (h : Tr enc P W t [v]) :
    ∃ l, Rd W v 1 (ints k l) ∧ l.length * P.bytesOf e ≤ reachBytes ∧ ∀ z, z ∈ l → (Lit.int k z).wf = true := by
  obtain ⟨l, n, h1, h2, h3, h4⟩ := rd_tr2 ht (by omega) h
  rw [hc, Nat.mul_one] at h2
  rw [hc] at h1
  obtain ⟨zs, rfl, h5⟩ := ints_all (k := k) l (fun i hi => by
    obtain ⟨m, h5, h6⟩ := tr_int he (h4 i (by omega))
    rw [hc, Nat.mul_one, take1 hi] at h5
    exact ⟨m, by rw [List.getElem?_eq_getElem hi, (List.cons.inj h5).1], h6⟩)
  exact ⟨zs, h1, by rw [ints_length] at h2; rw [h2]; exact h3, h5⟩
/-- A row of slices of bytes. -/
theorem rows_all {t e : TypeId} (ht : P.underlying t = some (.slice e)) (he : P.underlying e = some (.int .u8)) (hc : P.cellsOf e = 1) (hn : P.cellsOf t = 1) : ∀ (n : Nat) (l : List Value), l.length = n * 1 → (∀ i, i < n → Tr enc P W t ((l.drop (i * 1)).take 1)) →
    ∃ ms : List (List Int), ms.length = n ∧ (∀ (i : Nat) v m, l[i]? = some v → ms[i]? = some m → Rd W v 1 (ints .u8 m) ∧ m.length * P.bytesOf e ≤ reachBytes ∧ Sha.Byt m)
  | 0, l, hl, _ => ⟨[], rfl, fun i v m hv hm => by simp at hm⟩
  | n + 1, l, hl, h => by
    match l, hl with
    | v :: l, hl =>
      have h0 := h 0 (by omega)
      rw [Nat.zero_mul, List.drop_zero, List.take_succ_cons, List.take_zero] at h0
      obtain ⟨m, h1, h2, h3⟩ := rd_ints2 (k := .u8) ht he hc h0
      obtain ⟨ms, h4, h5⟩ := rows_all ht he hc hn n l (by simp only [List.length_cons] at hl; omega) (fun i hi => by
        have := h (i + 1) (by omega)
        rw [Nat.mul_one] at this ⊢
        simpa using this)
      refine ⟨m :: ms, by rw [List.length_cons, h4], fun i v' m' hv hm => ?_⟩
      cases i with
      | zero =>
        simp only [List.getElem?_cons_zero, Option.some.injEq] at hv hm
        subst hv; subst hm
        exact ⟨h1, h2, wf_byt h3⟩
      | succ i =>
        simp only [List.getElem?_cons_succ] at hv hm
        exact h5 i v' m' hv hm
end
end Go.Proofs.Yteedclmcgifmpaa.Fw

namespace Go.Proofs.Yteedclmcgifmpaa
open Go Go.ChangeShapes Go.WideShapes Go.ChangeAt Go.RowKit Fw
set_option linter.unusedVariables false
theorem laid : laidOutB Try.prog = true := by kernel_rfl
namespace keySigns
theorem own : ownKnob Try.prog.godebug = none := by kernel_rfl
set_option maxRecDepth 100000 in
theorem lifted (os : Os) (started : os.Started) (H : Type) (enc : TypeId × Value → H) :
    ReturnsInHanded {} Try.checked os 7 .any (Rows.keySignsSpec.pre6 enc Try.prog Try.f7 Rows.keySignsRow.domain false) (Rows.keySignsSpec.post enc Try.prog Try.f7 false true false false) := by
  refine returnsInHanded_of_change_sized (C := Try.checked) own started (by kernel_rfl) Try.func7
    (ChangeSpec.witness6 (enc := enc) (C := Try.checked) false ⟨#[], #[.agg #[.int .u8 0, .int .u8 0, .int .u8 0, .int .u8 0, .int .u8 0, .int .u8 0, .int .u8 0, .int .u8 0, .int .u8 0, .int .u8 0, .int .u8 0, .int .u8 0, .int .u8 0, .int .u8 0, .int .u8 0, .int .u8 0, .int .u8 0, .int .u8 0, .int .u8 0, .int .u8 0, .int .u8 0, .int .u8 0, .int .u8 0, .int .u8 0, .int .u8 0, .int .u8 0, .int .u8 0, .int .u8 0, .int .u8 0, .int .u8 0, .int .u8 0, .int .u8 0], .int .i64 0, .slice none 0 0], []⟩ 8 (by kernel_rfl) (by kernel_rfl) (by kernel_rfl) (by kernel_rfl)) ?_
  intro W base args ds gs before hval0 hW hcnd hsz _
  have hval : ∀ (j : Nat) t v, Try.f7.params[j]? = some t → args[j]? = some v → Value.okWide Try.prog W .any base t v := hval0
  have hW' := hW
  obtain ⟨p, q, hA0, hV, rfl, hfz, hnd⟩ := hW
  have hA : DataW.TrodAll enc Try.prog W 0 (fun _ => true) true Try.f7.params.toList args.toList ds p := hA0
  have hk := hA
  have hlt : ∀ x ∈ p, x.block < W.heap.size := fun x hx => hW'.lt x (List.mem_append.2 (.inl hx))
  rw [Try.params7] at hA hval hk
  obtain ⟨v0, vs0, d0, ds0, p0, q0, hargs, rfl, rfl, h0, r0⟩ := trodAll_cons hA
  obtain ⟨v1, vs1, d1, ds1, p1, q1, rfl, rfl, rfl, h1, r1⟩ := trodAll_cons r0
  obtain ⟨v2, vs2, d2, ds2, p2, q2, rfl, rfl, rfl, h2, r2⟩ := trodAll_cons r1
  obtain ⟨rfl, rfl, rfl⟩ := trodAll_nil r2
  obtain rfl : args = #[v0, v1, v2] := by cases args; simp_all
  obtain ⟨rfl, rfl⟩ := trodVars_none hV
  obtain ⟨l0, rfl, m0, b0⟩ := open_arr Try.underlying39 Try.underlying5 (by kernel_rfl) (by kernel_rfl) (hval 0 39 v0 rfl rfl) h0 (light_of (j := 0) hsz rfl rfl)
  obtain ⟨a1, rfl, _, _, w1⟩ := open_int Try.underlying3 (hval 1 3 v1 rfl rfl) h1
  obtain ⟨vs2, n2, rd2, e2, m2, t2⟩ := rd_of Try.underlying47 (by rw [show Try.prog.cellsOf 22 = 1 from by kernel_rfl]; decide) (hval 2 47 v2 rfl rfl) h2 (light_of (j := 2) hsz rfl rfl)
  rw [show Try.prog.cellsOf 22 = 1 from by kernel_rfl] at rd2 e2 t2
  rw [show Try.prog.bytesOf 22 = 24 from by kernel_rfl] at m2
  obtain ⟨ms2, em2, hr2⟩ := rows_all Try.underlying22 Try.underlying5 (by kernel_rfl) (by kernel_rfl) n2 vs2 e2 t2
  have hreach : reachBytes = 140737488351232 := rfl
  have hvl2 : vs2.length ≤ 140737488351232 := by omega
  have hml2 : ∀ m, m ∈ ms2 → m.length ≤ 140737488351232 := fun m hm => by
    obtain ⟨k, hk, rfl⟩ := List.getElem_of_mem hm
    have h := (hr2 k _ _ (List.getElem?_eq_getElem (by omega)) (List.getElem?_eq_getElem hk)).2.1
    rw [show Try.prog.bytesOf 5 = 1 from by kernel_rfl] at h
    omega
  refine (keySigns_any l0 a1 m0 v2 vs2 ms2 W (by omega) hvl2 hml2 rd2 (fun i v m hv hm => (hr2 i v m hv hm).1)).mono fun e W' ⟨he, g⟩ => ?_
  subst he
  have bel := g.below
  exact ⟨_, rfl, _, _, _, [], _, [], hW', trodAll_mk1 (shut_bool Try.underlying4 _), all_below laid bel _ _ _ _ (all_rows (by kernel_rfl)) hk hlt (fun x hx => by simpa using hlt x hx), rfl, bel.frame _, fun h => by cases h⟩
theorem over : Rows.keySignsRow.holds Try.pinned (OpenSpec.ofChange Rows.keySignsSpec) :=
  OpenClaim.holds_of_wide 7 Try.f7 rfl rfl rfl rfl rfl rfl rfl ⟨rfl, rfl, rfl, rfl, rfl⟩ rfl rfl rfl rfl rfl (by kernel_rfl) Try.func7 (by kernel_rfl)
    (of_decide_eq_true (by kernel_rfl)) (by unfold Func.isWrapper; first | (rw [if_pos (by decide +kernel)]; kernel_rfl) | (rw [if_neg (by decide +kernel)]; exact ⟨rfl, rfl⟩))
    (fun os started H enc _ => lifted os started H enc)
/-- The statement. -/
theorem proved : Rows.KeySignsSaid := over
end keySigns
end Go.Proofs.Yteedclmcgifmpaa
