/- The statement's proof, part 7: what its walks and its plain laws need. -/
import Derived.Test.YtgfnmolbagilmaaRows
import Derived.Tactics
import Derived.Deep.Quiet
import Derived.StillTail
import Derived.Laws.World
import Derived.Laws.Sem
import Derived.Laws.Entries
import Derived.Below
import Derived.Deep.LoopGhost
import Derived.Laws.BytesString
import Derived.Laws.IdiomStrings
import Derived.KernelRfl
import Derived.Carry
import Derived.OpenShut
import Derived.ProofKit
import Derived.ChangeSame
import Derived.HandedShaped
import Derived.SizedLaws
import Derived.Test.YtgfnmolbagilmaaProg
import Derived.Laws.Strings
import Derived.Test.YtgfnmolbagilmaaXc6
namespace Go.Proofs.Ytgfnmolbagilmaa
open Go Go.RowKit Fw
open Sha
open Ots
open Mk
set_option linter.unusedVariables false
set_option linter.unusedSimpArgs false
set_option maxRecDepth 20000 in
set_option maxHeartbeats 2000000 in
theorem attest_nil (a t : Int) (w : World) : Calls Try.prog 25 #[.pointer none, .int .i64 a, .int .i64 t] w (PostV w (.tuple #[.agg (List.toArray [.slice none 0 0, .slice none 0 0]), .int .i64 1])) := by
  refine calls_at (vs := [.pointer none, .int .i64 a, .int .i64 t]) (X := []) (H := []) (F := []) 48 Try.func25 rfl rfl rfl (Sat.start0 w) ?_
  refine cd_seq ?_
  refine cd_region ?_
  refine st_alloc (h := 6) ty31 rfl rfl rfl (fun b6 => ?_)
  refine st (ev_assign rfl) rfl rfl rfl ?_
  refine op_nil ?_
  refine ax_then ?_
  refine At.regs (L' := [(0, _), (1, _), (2, _), (6, _), (7, _)]) (.cons rfl (.cons rfl (.cons rfl (.cons rfl (.cons rfl (.nil _)))))) ?_
  refine cd_seq ?_
  refine cd_seq ?_
  refine cd_region ?_
  refine st (ev_move rfl) rfl rfl rfl ?_
  refine st (ev_eql_ptr_nil Try.underlying56 rfl rfl) rfl rfl rfl ?_
  refine st (ev_move rfl) rfl rfl rfl ?_
  refine st_skip rfl rfl rfl ?_
  refine st_skip rfl rfl rfl ?_
  refine st_skip rfl rfl rfl ?_
  refine st (ev_pick_t rfl rfl) rfl rfl rfl ?_
  refine st (ev_move rfl) rfl rfl rfl ?_
  refine st_skip rfl rfl rfl ?_
  refine st_skip rfl rfl rfl ?_
  refine st_skip rfl rfl rfl ?_
  refine st (ev_pick_t rfl rfl) rfl rfl rfl ?_
  refine op_nil ?_
  refine ax_then ?_
  refine At.regs (L' := [(0, _), (1, _), (2, _), (6, _), (7, _), (22, _)]) (.cons rfl (.cons rfl (.cons rfl (.cons rfl (.cons rfl (.cons rfl (.nil _))))))) ?_
  refine cd_true rfl ?_
  refine cd_seq ?_
  refine cd_region ?_
  refine st (ev_build_struct ty31 rfl pl31 rfl rfl) rfl rfl rfl ?_
  refine st_store_all 6 ty31 rfl rfl rfl rfl (by first | omega | (simp only [List.length_append, List.length_cons, List.length_nil, List.length_set, List.length_replicate, List.length_take, List.length_drop, ints_length, wr_length, sha_len, node_len, recov_len, Ky.named_len, Ky.keyPub_len, Ky.hashOf_len] <;> omega) | rfl) (by first | (intro u hu; simp at hu; rcases hu with rfl | rfl <;> rfl) | (simp [Value.oneCell'])) (by first | omega | (simp only [List.length_append, List.length_cons, List.length_nil, List.length_set, List.length_replicate, List.length_take, List.length_drop, ints_length, wr_length, sha_len, node_len, recov_len, Ky.named_len, Ky.keyPub_len, Ky.hashOf_len] <;> omega) | rfl) rfl ?_
  refine st (ev_assign rfl) rfl rfl rfl ?_
  refine op_nil ?_
  refine ax_then ?_
  refine At.regs (L' := [(0, _), (1, _), (2, _), (6, _), (7, _)]) (.cons rfl (.cons rfl (.cons rfl (.cons rfl (.cons rfl (.nil _)))))) ?_
  refine cd_ret ?_
  refine ax_then_ret ?_
  refine rt_cell_tmp (h0 := 6) (.inl rfl) Try.results25 ty31 rfl rfl rfl (by first | omega | (simp only [List.length_append, List.length_cons, List.length_nil, List.length_set, List.length_replicate, List.length_take, List.length_drop, ints_length, wr_length, sha_len, node_len, recov_len, Ky.named_len, Ky.keyPub_len, Ky.hashOf_len] <;> omega) | rfl) rfl ?_
  exact fun w1 sw => ⟨rfl, sw.gives (.nil _)⟩
set_option maxRecDepth 20000 in
set_option maxHeartbeats 2000000 in
theorem attest_arg (cb : Nat) (a t : Int) (w : World) (hn : ¬ Ck.isN a ∨ ¬ Ck.isN t) : Calls Try.prog 25 #[.pointer (some ⟨cb, 0, none⟩), .int .i64 a, .int .i64 t] w (PostV w (.tuple #[.agg (List.toArray [.slice none 0 0, .slice none 0 0]), .int .i64 1])) := by
  refine calls_at (vs := [.pointer (some ⟨cb, 0, none⟩), .int .i64 a, .int .i64 t]) (X := []) (H := []) (F := []) 48 Try.func25 rfl rfl rfl (Sat.start0 w) ?_
  refine cd_seq ?_
  refine cd_region ?_
  refine st_alloc (h := 6) ty31 rfl rfl rfl (fun b6 => ?_)
  refine st (ev_assign rfl) rfl rfl rfl ?_
  refine op_nil ?_
  refine ax_then ?_
  refine At.regs (L' := [(0, _), (1, _), (2, _), (6, _), (7, _)]) (.cons rfl (.cons rfl (.cons rfl (.cons rfl (.cons rfl (.nil _)))))) ?_
  refine cd_seq ?_
  refine cd_seq ?_
  refine cd_region ?_
  refine st (ev_move rfl) rfl rfl rfl ?_
  refine st (ev_eql_ptr_nil Try.underlying56 rfl rfl) rfl rfl rfl ?_
  refine st (ev_move rfl) rfl rfl rfl ?_
  refine st (ev_move rfl) rfl rfl rfl ?_
  refine st_callv has43 rfl (fun w1 sw => cnum_any _ w1) rfl rfl ?_
  refine st (ev_not_if rfl) rfl rfl rfl ?_
  refine st (ev_pick_f rfl rfl) rfl rfl rfl ?_
  refine st (ev_move rfl) rfl rfl rfl ?_
  refine at_split_if (i := 18) rfl (fun hg18 => ?_) (fun hg18 => ?_)
  ·
    refine st_skip rfl rfl rfl ?_
    refine st_skip rfl rfl rfl ?_
    refine st_skip rfl rfl rfl ?_
    refine st (ev_pick_t rfl rfl) rfl rfl rfl ?_
    refine op_nil ?_
    refine ax_then ?_
    refine At.regs (L' := [(0, _), (1, _), (2, _), (6, _), (7, _), (22, _)]) (.cons rfl (.cons rfl (.cons rfl (.cons rfl (.cons rfl (.cons rfl (.nil _))))))) ?_
    refine cd_true rfl ?_
    refine cd_seq ?_
    refine cd_region ?_
    refine st (ev_build_struct ty31 rfl pl31 rfl rfl) rfl rfl rfl ?_
    refine st_store_all 6 ty31 rfl rfl rfl rfl (by first | omega | (simp only [List.length_append, List.length_cons, List.length_nil, List.length_set, List.length_replicate, List.length_take, List.length_drop, ints_length, wr_length, sha_len, node_len, recov_len, Ky.named_len, Ky.keyPub_len, Ky.hashOf_len] <;> omega) | rfl) (by first | (intro u hu; simp at hu; rcases hu with rfl | rfl <;> rfl) | (simp [Value.oneCell'])) (by first | omega | (simp only [List.length_append, List.length_cons, List.length_nil, List.length_set, List.length_replicate, List.length_take, List.length_drop, ints_length, wr_length, sha_len, node_len, recov_len, Ky.named_len, Ky.keyPub_len, Ky.hashOf_len] <;> omega) | rfl) rfl ?_
    refine st (ev_assign rfl) rfl rfl rfl ?_
    refine op_nil ?_
    refine ax_then ?_
    refine At.regs (L' := [(0, _), (1, _), (2, _), (6, _), (7, _)]) (.cons rfl (.cons rfl (.cons rfl (.cons rfl (.cons rfl (.nil _)))))) ?_
    refine cd_ret ?_
    refine ax_then_ret ?_
    refine rt_cell_tmp (h0 := 6) (.inl rfl) Try.results25 ty31 rfl rfl rfl (by first | omega | (simp only [List.length_append, List.length_cons, List.length_nil, List.length_set, List.length_replicate, List.length_take, List.length_drop, ints_length, wr_length, sha_len, node_len, recov_len, Ky.named_len, Ky.keyPub_len, Ky.hashOf_len] <;> omega) | rfl) rfl ?_
    exact fun w1 sw => ⟨rfl, sw.gives (.nil _)⟩
  ·
    refine st (ev_move rfl) rfl rfl rfl ?_
    refine st_callv has43 rfl (fun w1 sw => cnum_any _ w1) rfl rfl ?_
    refine st (ev_not_if rfl) rfl rfl rfl ?_
    refine st (ev_pick_f rfl rfl) rfl rfl rfl ?_
    refine op_nil ?_
    refine ax_then ?_
    refine At.regs (L' := [(0, _), (1, _), (2, _), (6, _), (7, _), (22, _)]) (.cons rfl (.cons rfl (.cons rfl (.cons rfl (.cons rfl (.cons rfl (.nil _))))))) ?_
    refine cd_if_t rfl (by exact (hn.resolve_left hg18)) ?_
    refine cd_seq ?_
    refine cd_region ?_
    refine st (ev_build_struct ty31 rfl pl31 rfl rfl) rfl rfl rfl ?_
    refine st_store_all 6 ty31 rfl rfl rfl rfl (by first | omega | (simp only [List.length_append, List.length_cons, List.length_nil, List.length_set, List.length_replicate, List.length_take, List.length_drop, ints_length, wr_length, sha_len, node_len, recov_len, Ky.named_len, Ky.keyPub_len, Ky.hashOf_len] <;> omega) | rfl) (by first | (intro u hu; simp at hu; rcases hu with rfl | rfl <;> rfl) | (simp [Value.oneCell'])) (by first | omega | (simp only [List.length_append, List.length_cons, List.length_nil, List.length_set, List.length_replicate, List.length_take, List.length_drop, ints_length, wr_length, sha_len, node_len, recov_len, Ky.named_len, Ky.keyPub_len, Ky.hashOf_len] <;> omega) | rfl) rfl ?_
    refine st (ev_assign rfl) rfl rfl rfl ?_
    refine op_nil ?_
    refine ax_then ?_
    refine At.regs (L' := [(0, _), (1, _), (2, _), (6, _), (7, _)]) (.cons rfl (.cons rfl (.cons rfl (.cons rfl (.cons rfl (.nil _)))))) ?_
    refine cd_ret ?_
    refine ax_then_ret ?_
    refine rt_cell_tmp (h0 := 6) (.inl rfl) Try.results25 ty31 rfl rfl rfl (by first | omega | (simp only [List.length_append, List.length_cons, List.length_nil, List.length_set, List.length_replicate, List.length_take, List.length_drop, ints_length, wr_length, sha_len, node_len, recov_len, Ky.named_len, Ky.keyPub_len, Ky.hashOf_len] <;> omega) | rfl) rfl ?_
    exact fun w1 sw => ⟨rfl, sw.gives (.nil _)⟩
set_option maxRecDepth 20000 in
set_option maxHeartbeats 2000000 in
theorem qattest_arg (cb : Nat) (a t : Int) (w : World) (hn : ¬ Ck.isN a ∨ ¬ Ck.isN t) : Calls Try.prog 26 #[.pointer (some ⟨cb, 0, none⟩), .int .i64 a, .int .i64 t] w (PostV w (.tuple #[.agg (List.toArray [.slice none 0 0, .slice none 0 0]), .int .i64 1])) := by
  refine calls_at (vs := [.pointer (some ⟨cb, 0, none⟩), .int .i64 a, .int .i64 t]) (X := []) (H := []) (F := []) 48 Try.func26 rfl rfl rfl (Sat.start0 w) ?_
  refine cd_seq ?_
  refine cd_region ?_
  refine st_alloc (h := 6) ty31 rfl rfl rfl (fun b6 => ?_)
  refine st (ev_assign rfl) rfl rfl rfl ?_
  refine op_nil ?_
  refine ax_then ?_
  refine At.regs (L' := [(0, _), (1, _), (2, _), (6, _), (7, _)]) (.cons rfl (.cons rfl (.cons rfl (.cons rfl (.cons rfl (.nil _)))))) ?_
  refine cd_seq ?_
  refine cd_seq ?_
  refine cd_region ?_
  refine st (ev_move rfl) rfl rfl rfl ?_
  refine st_callv has47 rfl (fun w1 sw => qcnum_any _ w1) rfl rfl ?_
  refine st (ev_not_if rfl) rfl rfl rfl ?_
  refine st (ev_move rfl) rfl rfl rfl ?_
  refine at_split_if (i := 14) rfl (fun hg14 => ?_) (fun hg14 => ?_)
  ·
    refine st_skip rfl rfl rfl ?_
    refine st_skip rfl rfl rfl ?_
    refine st_skip rfl rfl rfl ?_
    refine st (ev_pick_t rfl rfl) rfl rfl rfl ?_
    refine op_nil ?_
    refine ax_then ?_
    refine At.regs (L' := [(0, _), (1, _), (2, _), (6, _), (7, _), (18, _)]) (.cons rfl (.cons rfl (.cons rfl (.cons rfl (.cons rfl (.cons rfl (.nil _))))))) ?_
    refine cd_true rfl ?_
    refine cd_seq ?_
    refine cd_region ?_
    refine st (ev_build_struct ty31 rfl pl31 rfl rfl) rfl rfl rfl ?_
    refine st_store_all 6 ty31 rfl rfl rfl rfl (by first | omega | (simp only [List.length_append, List.length_cons, List.length_nil, List.length_set, List.length_replicate, List.length_take, List.length_drop, ints_length, wr_length, sha_len, node_len, recov_len, Ky.named_len, Ky.keyPub_len, Ky.hashOf_len] <;> omega) | rfl) (by first | (intro u hu; simp at hu; rcases hu with rfl | rfl <;> rfl) | (simp [Value.oneCell'])) (by first | omega | (simp only [List.length_append, List.length_cons, List.length_nil, List.length_set, List.length_replicate, List.length_take, List.length_drop, ints_length, wr_length, sha_len, node_len, recov_len, Ky.named_len, Ky.keyPub_len, Ky.hashOf_len] <;> omega) | rfl) rfl ?_
    refine st (ev_assign rfl) rfl rfl rfl ?_
    refine op_nil ?_
    refine ax_then ?_
    refine At.regs (L' := [(0, _), (1, _), (2, _), (6, _), (7, _)]) (.cons rfl (.cons rfl (.cons rfl (.cons rfl (.cons rfl (.nil _)))))) ?_
    refine cd_ret ?_
    refine ax_then_ret ?_
    refine rt_cell_tmp (h0 := 6) (.inl rfl) Try.results26 ty31 rfl rfl rfl (by first | omega | (simp only [List.length_append, List.length_cons, List.length_nil, List.length_set, List.length_replicate, List.length_take, List.length_drop, ints_length, wr_length, sha_len, node_len, recov_len, Ky.named_len, Ky.keyPub_len, Ky.hashOf_len] <;> omega) | rfl) rfl ?_
    exact fun w1 sw => ⟨rfl, sw.gives (.nil _)⟩
  ·
    refine st (ev_move rfl) rfl rfl rfl ?_
    refine st_callv has47 rfl (fun w1 sw => qcnum_any _ w1) rfl rfl ?_
    refine st (ev_not_if rfl) rfl rfl rfl ?_
    refine st (ev_pick_f rfl rfl) rfl rfl rfl ?_
    refine op_nil ?_
    refine ax_then ?_
    refine At.regs (L' := [(0, _), (1, _), (2, _), (6, _), (7, _), (18, _)]) (.cons rfl (.cons rfl (.cons rfl (.cons rfl (.cons rfl (.cons rfl (.nil _))))))) ?_
    refine cd_if_t rfl (by exact (hn.resolve_left hg14)) ?_
    refine cd_seq ?_
    refine cd_region ?_
    refine st (ev_build_struct ty31 rfl pl31 rfl rfl) rfl rfl rfl ?_
    refine st_store_all 6 ty31 rfl rfl rfl rfl (by first | omega | (simp only [List.length_append, List.length_cons, List.length_nil, List.length_set, List.length_replicate, List.length_take, List.length_drop, ints_length, wr_length, sha_len, node_len, recov_len, Ky.named_len, Ky.keyPub_len, Ky.hashOf_len] <;> omega) | rfl) (by first | (intro u hu; simp at hu; rcases hu with rfl | rfl <;> rfl) | (simp [Value.oneCell'])) (by first | omega | (simp only [List.length_append, List.length_cons, List.length_nil, List.length_set, List.length_replicate, List.length_take, List.length_drop, ints_length, wr_length, sha_len, node_len, recov_len, Ky.named_len, Ky.keyPub_len, Ky.hashOf_len] <;> omega) | rfl) rfl ?_
    refine st (ev_assign rfl) rfl rfl rfl ?_
    refine op_nil ?_
    refine ax_then ?_
    refine At.regs (L' := [(0, _), (1, _), (2, _), (6, _), (7, _)]) (.cons rfl (.cons rfl (.cons rfl (.cons rfl (.cons rfl (.nil _)))))) ?_
    refine cd_ret ?_
    refine ax_then_ret ?_
    refine rt_cell_tmp (h0 := 6) (.inl rfl) Try.results26 ty31 rfl rfl rfl (by first | omega | (simp only [List.length_append, List.length_cons, List.length_nil, List.length_set, List.length_replicate, List.length_take, List.length_drop, ints_length, wr_length, sha_len, node_len, recov_len, Ky.named_len, Ky.keyPub_len, Ky.hashOf_len] <;> omega) | rfl) rfl ?_
    exact fun w1 sw => ⟨rfl, sw.gives (.nil _)⟩
set_option maxRecDepth 20000 in
set_option maxHeartbeats 4000000 in
theorem attest_used (cb kb : Nat) (lv : Value) (s : List Int) (n : Nat) (a t : Int) (w : World) (hl : s.length = 32) (ha : Ck.isN a) (ht : Ck.isN t) (hn : 16 ≤ n) (hk : Lies w kb 0 (Ky.cells s lv ((n : Nat) : Int))) (h : Rd w lv 32 (flat (Ky.leaves s 16))) (hc : Lies w cb 0 [.pointer (some ⟨kb, 0, none⟩)]) : Calls Try.prog 25 #[.pointer (some ⟨cb, 0, none⟩), .int .i64 a, .int .i64 t] w (PostV w (.tuple #[.agg (List.toArray [.slice none 0 0, .slice none 0 0]), .int .i64 3])) := by
  refine calls_at (vs := [.pointer (some ⟨cb, 0, none⟩), .int .i64 a, .int .i64 t]) (X := []) (H := []) (F := [(24, .mem cb 0 [.pointer (some ⟨kb, 0, none⟩)]), (23, .mem kb 0 (Ky.cells s lv ((n : Nat) : Int))), (20, .sl (lv) 32 (flat (Ky.leaves s 16)))]) 48 Try.func25 rfl rfl rfl (((Sat.rd0 20 h).read (f := .mem kb 0 (Ky.cells s lv ((n : Nat) : Int))) 23 hk off_nil).read (f := .mem cb 0 [.pointer (some ⟨kb, 0, none⟩)]) 24 hc off_nil) ?_
  refine cd_seq ?_
  refine cd_region ?_
  refine st_alloc (h := 6) ty31 rfl rfl rfl (fun b6 => ?_)
  refine st (ev_assign rfl) rfl rfl rfl ?_
  refine op_nil ?_
  refine ax_then ?_
  refine At.regs (L' := [(0, _), (1, _), (2, _), (6, _), (7, _)]) (.cons rfl (.cons rfl (.cons rfl (.cons rfl (.cons rfl (.nil _)))))) ?_
  refine cd_seq ?_
  refine cd_seq ?_
  refine cd_region ?_
  refine st (ev_move rfl) rfl rfl rfl ?_
  refine st (ev_eql_ptr_nil Try.underlying56 rfl rfl) rfl rfl rfl ?_
  refine st (ev_move rfl) rfl rfl rfl ?_
  refine st (ev_move rfl) rfl rfl rfl ?_
  refine st_callv has43 rfl (fun w1 sw => cnum_any _ w1) rfl rfl ?_
  refine st (ev_not_if rfl) rfl rfl rfl ?_
  refine st (ev_pick_f rfl rfl) rfl rfl rfl ?_
  refine st (ev_move rfl) rfl rfl rfl ?_
  refine at_eq (i := 18) (v' := .bool false) rfl (by simp only [Value.bool.injEq, decide_eq_true_eq, decide_eq_false_iff_not]; exact fun h => h ha) ?_
  refine st (ev_move rfl) rfl rfl rfl ?_
  refine st_callv has43 rfl (fun w1 sw => cnum_any _ w1) rfl rfl ?_
  refine st (ev_not_if rfl) rfl rfl rfl ?_
  refine st (ev_pick_f rfl rfl) rfl rfl rfl ?_
  refine op_nil ?_
  refine ax_then ?_
  refine At.regs (L' := [(0, _), (1, _), (2, _), (6, _), (7, _), (22, _)]) (.cons rfl (.cons rfl (.cons rfl (.cons rfl (.cons rfl (.cons rfl (.nil _))))))) ?_
  refine cd_if_f rfl (by exact fun h => h ht) ?_
  refine cd_skip ?_
  refine ax_then ?_
  refine At.regs (L' := [(0, _), (1, _), (2, _), (6, _), (7, _)]) (.cons rfl (.cons rfl (.cons rfl (.cons rfl (.cons rfl (.nil _)))))) ?_
  refine cd_seq ?_
  refine cd_region ?_
  refine st_alloc (h := 8) ty100 rfl rfl rfl (fun b8 => ?_)
  refine at_own_nil 100 5 1 ?_
  refine at_heq (i := 100) (v' := .own (.slice none 0 0) 5 1 (ints .u8 ([]))) rfl rfl ?_
  refine op_nil ?_
  refine ax_then ?_
  refine At.regs (L' := [(0, _), (1, _), (2, _), (6, _), (7, _), (8, _)]) (.cons rfl (.cons rfl (.cons rfl (.cons rfl (.cons rfl (.cons rfl (.nil _))))))) ?_
  refine cd_seq ?_
  refine cd_region ?_
  refine st (ev_move rfl) rfl rfl rfl ?_
  refine st (ev_move rfl) rfl rfl rfl ?_
  refine st_bsi (h := 26) (xs := [_, _, _]) Try.underlying49 ty3 (by decide) rfl rfl (by decide) rfl rfl (fun b26 => ?_)
  refine st_call has44 rfl (fun w1 sw => rn2 8 100 (wnums_any b8 (.slice none 0 0) (.slice (some ⟨b26, 0, none⟩) 3 3) [] [7, a, t] w1 (sw.blk_eq (h := 8) rfl) (sw.hold 100 _ rfl) (sw.own_notin (h := 8) (h' := 100) rfl rfl (by decide)) (sw.own_rd (h := 26) rfl) (sw.own_off (h := 8) (h' := 26) rfl rfl (by decide)) (sw.own_own (h := 100) (h' := 26) rfl rfl (by decide)) (by simp))) (mod_two (k := 8) (j := 100) rfl rfl) rfl rfl (fun v27 _ => ?_)
  refine at_heq (i := 100) (v' := .own (v27) 5 1 (ints .u8 (Ck.body a t))) rfl rfl ?_
  have hbl := Ck.body_len a t
  refine op_nil ?_
  refine ax_then ?_
  refine At.regs (L' := [(0, _), (6, _), (7, _), (8, _)]) (.cons rfl (.cons rfl (.cons rfl (.cons rfl (.nil _))))) ?_
  refine cd_seq ?_
  refine at_freeze (h := 100) (H' := [(6, _), (8, _), (26, _)]) 30 rfl (.cons rfl (.cons rfl (.cons rfl (.nil _)))) rfl ?_
  refine at_freeze_blk (h := 8) (H' := [(6, _), (26, _)]) 31 rfl (.cons rfl (.cons rfl (.nil _))) rfl ?_
  refine cd_mix hmix ?_
  refine mx (i := 0) rfl (by decide +kernel) (by decide +kernel) (by decide +kernel) rfl (fun w0 => ev_move rfl) rfl rfl (Sub.refl _) ?_
  refine mx (i := 1) rfl (by decide +kernel) (by decide +kernel) (by decide +kernel) rfl (fun w0 => ev_nilCheck rfl) rfl rfl (Sub.refl _) ?_
  refine mx (i := 2) rfl (by decide +kernel) (by decide +kernel) (by decide +kernel) rfl (fun w0 => ev_fieldAddr (b := _) Try.underlying98 (f := _) rfl ty95 (by decide) rfl) rfl rfl (Sub.refl _) ?_
  refine mx (i := 3) rfl (by decide +kernel) (by decide +kernel) (by decide +kernel) rfl (fun w0 => ld_mem1 (h := 24) ty95 rfl rfl rfl (Nat.zero_add _).symm rfl) rfl rfl (Sub.refl _) ?_
  refine mx_two (i := 4) (j := 9) (by decide +kernel) (Sub.refl _) ?_ ?_
  ·
    refine wo (i := 4) rfl ?_
    refine st_call has46 rfl (fun w1 sw => rn 33 (wout_any b8 v27 (Ck.body a t) w1 (by omega) (sw.mem_lies (h := 31) rfl) (sw.sl_rd (h := 30) rfl))) nil_all rfl rfl (fun v33 _ => ?_)
    refine op_nil ?_
    refine ax_then ?_
    refine mx_two (i := 5) (j := 9) (by decide +kernel) (Sub.refl _) ?_ ?_
    ·
      refine wo (i := 5) rfl ?_
      refine st_callv has45 rfl (fun w1 sw => signk_used kb lv s n v33 w1 hn hl (sw.mem_lies (h := 23) rfl) (sw.sl_rd (h := 20) rfl)) rfl rfl ?_
      refine op_nil ?_
      refine ax_then ?_
      refine mx (i := 6) rfl (by decide +kernel) (by decide +kernel) (by decide +kernel) rfl (fun w0 => ev_move rfl) rfl rfl (Sub.refl _) ?_
      refine mx (i := 7) rfl (by decide +kernel) (by decide +kernel) (by decide +kernel) rfl (fun w0 => ev_extract rfl rfl) rfl rfl (Sub.refl _) ?_
      refine mx (i := 8) rfl (by decide +kernel) (by decide +kernel) (by decide +kernel) rfl (fun w0 => ev_extract rfl rfl) rfl rfl (Sub.refl _) ?_
      refine mx_one (i := 9) (by decide +kernel) (Sub.refl _) ?_
      refine wo (i := 9) rfl ?_
      refine st_alloc (h := 9) ty80 rfl rfl rfl (fun b9 => ?_)
      refine op_nil ?_
      refine ax_then ?_
      refine mx_one (i := 10) (by decide +kernel) (Sub.refl _) ?_
      refine wo (i := 10) rfl ?_
      refine st_store_all 9 ty80 rfl rfl rfl rfl (by first | omega | (simp only [List.length_append, List.length_cons, List.length_nil, List.length_set, List.length_replicate, List.length_take, List.length_drop, ints_length, wr_length, sha_len, node_len, recov_len, Ky.named_len, Ky.keyPub_len, Ky.hashOf_len] <;> omega) | rfl) (by first | (intro u hu; simp at hu; rcases hu with rfl | rfl <;> rfl) | (simp [Value.oneCell'])) (by first | omega | (simp only [List.length_append, List.length_cons, List.length_nil, List.length_set, List.length_replicate, List.length_take, List.length_drop, ints_length, wr_length, sha_len, node_len, recov_len, Ky.named_len, Ky.keyPub_len, Ky.hashOf_len] <;> omega) | rfl) rfl ?_
      refine op_nil ?_
      refine ax_then ?_
      refine mx (i := 11) rfl (by decide +kernel) (by decide +kernel) (by decide +kernel) rfl (fun w0 => ev_assign rfl) rfl rfl (Sub.refl _) ?_
      refine mx_done (by decide +kernel) (Sub.refl _) ?_
      refine ax_then ?_
      refine At.regs (L' := [(0, _), (6, _), (7, _), (8, _), (9, _), (10, _)]) (.cons rfl (.cons rfl (.cons rfl (.cons rfl (.cons rfl (.cons rfl (.nil _))))))) ?_
      refine cd_seq ?_
      refine cd_seq ?_
      refine cd_region ?_
      refine st (ev_move rfl) rfl rfl rfl ?_
      refine st (ev_neq rfl rfl) rfl rfl rfl ?_
      refine op_nil ?_
      refine ax_then ?_
      refine At.regs (L' := [(0, _), (6, _), (7, _), (8, _), (9, _), (10, _), (38, _)]) (.cons rfl (.cons rfl (.cons rfl (.cons rfl (.cons rfl (.cons rfl (.cons rfl (.nil _)))))))) ?_
      refine cd_if_t rfl (by decide) ?_
      refine cd_seq ?_
      refine cd_region ?_
      refine st (ev_build_struct ty31 rfl pl31 rfl rfl) rfl rfl rfl ?_
      refine st (ev_move rfl) rfl rfl rfl ?_
      refine st_store_all 6 ty31 rfl rfl rfl rfl (by first | omega | (simp only [List.length_append, List.length_cons, List.length_nil, List.length_set, List.length_replicate, List.length_take, List.length_drop, ints_length, wr_length, sha_len, node_len, recov_len, Ky.named_len, Ky.keyPub_len, Ky.hashOf_len] <;> omega) | rfl) (by first | (intro u hu; simp at hu; rcases hu with rfl | rfl <;> rfl) | (simp [Value.oneCell'])) (by first | omega | (simp only [List.length_append, List.length_cons, List.length_nil, List.length_set, List.length_replicate, List.length_take, List.length_drop, ints_length, wr_length, sha_len, node_len, recov_len, Ky.named_len, Ky.keyPub_len, Ky.hashOf_len] <;> omega) | rfl) rfl ?_
      refine st (ev_assign rfl) rfl rfl rfl ?_
      refine op_nil ?_
      refine ax_then ?_
      refine At.regs (L' := [(0, _), (6, _), (7, _), (8, _), (9, _)]) (.cons rfl (.cons rfl (.cons rfl (.cons rfl (.cons rfl (.nil _)))))) ?_
      refine cd_ret ?_
      refine ax_then_ret ?_
      refine rt_cell_tmp (h0 := 6) (.inl rfl) Try.results25 ty31 rfl rfl rfl (by first | omega | (simp only [List.length_append, List.length_cons, List.length_nil, List.length_set, List.length_replicate, List.length_take, List.length_drop, ints_length, wr_length, sha_len, node_len, recov_len, Ky.named_len, Ky.keyPub_len, Ky.hashOf_len] <;> omega) | rfl) rfl ?_
      exact fun w1 sw => ⟨rfl, sw.gives (.nil _)⟩
    ·
      refine wo (i := 9) rfl ?_
      refine st_alloc (h := 9) ty80 rfl rfl rfl (fun b9 => ?_)
      refine op_nil ?_
      refine ax_then ?_
      refine mx_one (i := 5) (by decide +kernel) (Sub.refl _) ?_
      refine wo (i := 5) rfl ?_
      refine st_callv has45 rfl (fun w1 sw => signk_used kb lv s n v33 w1 hn hl (sw.mem_lies (h := 23) rfl) (sw.sl_rd (h := 20) rfl)) rfl rfl ?_
      refine op_nil ?_
      refine ax_then ?_
      refine mx (i := 6) rfl (by decide +kernel) (by decide +kernel) (by decide +kernel) rfl (fun w0 => ev_move rfl) rfl rfl (Sub.refl _) ?_
      refine mx (i := 7) rfl (by decide +kernel) (by decide +kernel) (by decide +kernel) rfl (fun w0 => ev_extract rfl rfl) rfl rfl (Sub.refl _) ?_
      refine mx (i := 8) rfl (by decide +kernel) (by decide +kernel) (by decide +kernel) rfl (fun w0 => ev_extract rfl rfl) rfl rfl (Sub.refl _) ?_
      refine mx_one (i := 10) (by decide +kernel) (Sub.refl _) ?_
      refine wo (i := 10) rfl ?_
      refine st_store_all 9 ty80 rfl rfl rfl rfl (by first | omega | (simp only [List.length_append, List.length_cons, List.length_nil, List.length_set, List.length_replicate, List.length_take, List.length_drop, ints_length, wr_length, sha_len, node_len, recov_len, Ky.named_len, Ky.keyPub_len, Ky.hashOf_len] <;> omega) | rfl) (by first | (intro u hu; simp at hu; rcases hu with rfl | rfl <;> rfl) | (simp [Value.oneCell'])) (by first | omega | (simp only [List.length_append, List.length_cons, List.length_nil, List.length_set, List.length_replicate, List.length_take, List.length_drop, ints_length, wr_length, sha_len, node_len, recov_len, Ky.named_len, Ky.keyPub_len, Ky.hashOf_len] <;> omega) | rfl) rfl ?_
      refine op_nil ?_
      refine ax_then ?_
      refine mx (i := 11) rfl (by decide +kernel) (by decide +kernel) (by decide +kernel) rfl (fun w0 => ev_assign rfl) rfl rfl (Sub.refl _) ?_
      refine mx_done (by decide +kernel) (Sub.refl _) ?_
      refine ax_then ?_
      refine At.regs (L' := [(0, _), (6, _), (7, _), (8, _), (9, _), (10, _)]) (.cons rfl (.cons rfl (.cons rfl (.cons rfl (.cons rfl (.cons rfl (.nil _))))))) ?_
      refine cd_seq ?_
      refine cd_seq ?_
      refine cd_region ?_
      refine st (ev_move rfl) rfl rfl rfl ?_
      refine st (ev_neq rfl rfl) rfl rfl rfl ?_
      refine op_nil ?_
      refine ax_then ?_
      refine At.regs (L' := [(0, _), (6, _), (7, _), (8, _), (9, _), (10, _), (38, _)]) (.cons rfl (.cons rfl (.cons rfl (.cons rfl (.cons rfl (.cons rfl (.cons rfl (.nil _)))))))) ?_
      refine cd_if_t rfl (by decide) ?_
      refine cd_seq ?_
      refine cd_region ?_
      refine st (ev_build_struct ty31 rfl pl31 rfl rfl) rfl rfl rfl ?_
      refine st (ev_move rfl) rfl rfl rfl ?_
      refine st_store_all 6 ty31 rfl rfl rfl rfl (by first | omega | (simp only [List.length_append, List.length_cons, List.length_nil, List.length_set, List.length_replicate, List.length_take, List.length_drop, ints_length, wr_length, sha_len, node_len, recov_len, Ky.named_len, Ky.keyPub_len, Ky.hashOf_len] <;> omega) | rfl) (by first | (intro u hu; simp at hu; rcases hu with rfl | rfl <;> rfl) | (simp [Value.oneCell'])) (by first | omega | (simp only [List.length_append, List.length_cons, List.length_nil, List.length_set, List.length_replicate, List.length_take, List.length_drop, ints_length, wr_length, sha_len, node_len, recov_len, Ky.named_len, Ky.keyPub_len, Ky.hashOf_len] <;> omega) | rfl) rfl ?_
      refine st (ev_assign rfl) rfl rfl rfl ?_
      refine op_nil ?_
      refine ax_then ?_
      refine At.regs (L' := [(0, _), (6, _), (7, _), (8, _), (9, _)]) (.cons rfl (.cons rfl (.cons rfl (.cons rfl (.cons rfl (.nil _)))))) ?_
      refine cd_ret ?_
      refine ax_then_ret ?_
      refine rt_cell_tmp (h0 := 6) (.inl rfl) Try.results25 ty31 rfl rfl rfl (by first | omega | (simp only [List.length_append, List.length_cons, List.length_nil, List.length_set, List.length_replicate, List.length_take, List.length_drop, ints_length, wr_length, sha_len, node_len, recov_len, Ky.named_len, Ky.keyPub_len, Ky.hashOf_len] <;> omega) | rfl) rfl ?_
      exact fun w1 sw => ⟨rfl, sw.gives (.nil _)⟩
  ·
    refine wo (i := 9) rfl ?_
    refine st_alloc (h := 9) ty80 rfl rfl rfl (fun b9 => ?_)
    refine op_nil ?_
    refine ax_then ?_
    refine mx_one (i := 4) (by decide +kernel) (Sub.refl _) ?_
    refine wo (i := 4) rfl ?_
    refine st_call has46 rfl (fun w1 sw => rn 33 (wout_any b8 v27 (Ck.body a t) w1 (by omega) (sw.mem_lies (h := 31) rfl) (sw.sl_rd (h := 30) rfl))) nil_all rfl rfl (fun v33 _ => ?_)
    refine op_nil ?_
    refine ax_then ?_
    refine mx_one (i := 5) (by decide +kernel) (Sub.refl _) ?_
    refine wo (i := 5) rfl ?_
    refine st_callv has45 rfl (fun w1 sw => signk_used kb lv s n v33 w1 hn hl (sw.mem_lies (h := 23) rfl) (sw.sl_rd (h := 20) rfl)) rfl rfl ?_
    refine op_nil ?_
    refine ax_then ?_
    refine mx (i := 6) rfl (by decide +kernel) (by decide +kernel) (by decide +kernel) rfl (fun w0 => ev_move rfl) rfl rfl (Sub.refl _) ?_
    refine mx (i := 7) rfl (by decide +kernel) (by decide +kernel) (by decide +kernel) rfl (fun w0 => ev_extract rfl rfl) rfl rfl (Sub.refl _) ?_
    refine mx (i := 8) rfl (by decide +kernel) (by decide +kernel) (by decide +kernel) rfl (fun w0 => ev_extract rfl rfl) rfl rfl (Sub.refl _) ?_
    refine mx_one (i := 10) (by decide +kernel) (Sub.refl _) ?_
    refine wo (i := 10) rfl ?_
    refine st_store_all 9 ty80 rfl rfl rfl rfl (by first | omega | (simp only [List.length_append, List.length_cons, List.length_nil, List.length_set, List.length_replicate, List.length_take, List.length_drop, ints_length, wr_length, sha_len, node_len, recov_len, Ky.named_len, Ky.keyPub_len, Ky.hashOf_len] <;> omega) | rfl) (by first | (intro u hu; simp at hu; rcases hu with rfl | rfl <;> rfl) | (simp [Value.oneCell'])) (by first | omega | (simp only [List.length_append, List.length_cons, List.length_nil, List.length_set, List.length_replicate, List.length_take, List.length_drop, ints_length, wr_length, sha_len, node_len, recov_len, Ky.named_len, Ky.keyPub_len, Ky.hashOf_len] <;> omega) | rfl) rfl ?_
    refine op_nil ?_
    refine ax_then ?_
    refine mx (i := 11) rfl (by decide +kernel) (by decide +kernel) (by decide +kernel) rfl (fun w0 => ev_assign rfl) rfl rfl (Sub.refl _) ?_
    refine mx_done (by decide +kernel) (Sub.refl _) ?_
    refine ax_then ?_
    refine At.regs (L' := [(0, _), (6, _), (7, _), (8, _), (9, _), (10, _)]) (.cons rfl (.cons rfl (.cons rfl (.cons rfl (.cons rfl (.cons rfl (.nil _))))))) ?_
    refine cd_seq ?_
    refine cd_seq ?_
    refine cd_region ?_
    refine st (ev_move rfl) rfl rfl rfl ?_
    refine st (ev_neq rfl rfl) rfl rfl rfl ?_
    refine op_nil ?_
    refine ax_then ?_
    refine At.regs (L' := [(0, _), (6, _), (7, _), (8, _), (9, _), (10, _), (38, _)]) (.cons rfl (.cons rfl (.cons rfl (.cons rfl (.cons rfl (.cons rfl (.cons rfl (.nil _)))))))) ?_
    refine cd_if_t rfl (by decide) ?_
    refine cd_seq ?_
    refine cd_region ?_
    refine st (ev_build_struct ty31 rfl pl31 rfl rfl) rfl rfl rfl ?_
    refine st (ev_move rfl) rfl rfl rfl ?_
    refine st_store_all 6 ty31 rfl rfl rfl rfl (by first | omega | (simp only [List.length_append, List.length_cons, List.length_nil, List.length_set, List.length_replicate, List.length_take, List.length_drop, ints_length, wr_length, sha_len, node_len, recov_len, Ky.named_len, Ky.keyPub_len, Ky.hashOf_len] <;> omega) | rfl) (by first | (intro u hu; simp at hu; rcases hu with rfl | rfl <;> rfl) | (simp [Value.oneCell'])) (by first | omega | (simp only [List.length_append, List.length_cons, List.length_nil, List.length_set, List.length_replicate, List.length_take, List.length_drop, ints_length, wr_length, sha_len, node_len, recov_len, Ky.named_len, Ky.keyPub_len, Ky.hashOf_len] <;> omega) | rfl) rfl ?_
    refine st (ev_assign rfl) rfl rfl rfl ?_
    refine op_nil ?_
    refine ax_then ?_
    refine At.regs (L' := [(0, _), (6, _), (7, _), (8, _), (9, _)]) (.cons rfl (.cons rfl (.cons rfl (.cons rfl (.cons rfl (.nil _)))))) ?_
    refine cd_ret ?_
    refine ax_then_ret ?_
    refine rt_cell_tmp (h0 := 6) (.inl rfl) Try.results25 ty31 rfl rfl rfl (by first | omega | (simp only [List.length_append, List.length_cons, List.length_nil, List.length_set, List.length_replicate, List.length_take, List.length_drop, ints_length, wr_length, sha_len, node_len, recov_len, Ky.named_len, Ky.keyPub_len, Ky.hashOf_len] <;> omega) | rfl) rfl ?_
    exact fun w1 sw => ⟨rfl, sw.gives (.nil _)⟩
set_option maxRecDepth 20000 in
set_option maxHeartbeats 8000000 in
theorem attest_any (cb kb : Nat) (lv : Value) (s : List Int) (n : Nat) (a t : Int) (w : World) (hl : s.length = 32) (ha : Ck.isN a) (ht : Ck.isN t) (hn : n < 16) (hb : w.heap[kb]? = some (.cells (Ky.cells s lv ((n : Nat) : Int)).toArray 133)) (h : Rd w lv 32 (flat (Ky.leaves s 16))) (hbv : FE.off kb (.sl (lv) 32 (flat (Ky.leaves s 16)))) (hc : Lies w cb 0 [.pointer (some ⟨kb, 0, none⟩)]) (hck : FE.off kb (.mem cb 0 [.pointer (some ⟨kb, 0, none⟩)])) : Calls Try.prog 25 #[.pointer (some ⟨cb, 0, none⟩), .int .i64 a, .int .i64 t] w (Post (ι := Value × Value × Value × Value) w [kb] (fun _ => True) (fun x => .tuple #[.agg (List.toArray [x.1, x.2.1]), .int .i64 0]) (fun x => [(0, .blk (kb) (.cells (Ky.cells s lv ((n + 1 : Nat) : Int)).toArray 133)), (1, .own (x.1) 5 1 (ints .u8 (Ck.body a t))), (2, .own (x.2.1) 82 35 (Qm.mflat ([Ck.mk s n (Ck.body a t) x.2.2.1 x.2.2.2]))), (3, .own (x.2.2.1) 55 32 (flat (sign s n (Ck.body a t) 36))), (4, .own (x.2.2.2) 55 32 (flat (path (Ky.leaves s 16) n)))])) := by
  refine calls_at (vs := [.pointer (some ⟨cb, 0, none⟩), .int .i64 a, .int .i64 t]) (X := [kb]) (H := [(0, .blk (kb) (.cells (Ky.cells s lv ((n : Nat) : Int)).toArray 133))]) (F := [(24, .mem cb 0 [.pointer (some ⟨kb, 0, none⟩)]), (20, .sl (lv) 32 (flat (Ky.leaves s 16)))]) 48 Try.func25 rfl rfl rfl (((Sat.blkX 0 hb).readb (f := .sl (lv) 32 (flat (Ky.leaves s 16))) 20 h hbv).readb (f := .mem cb 0 [.pointer (some ⟨kb, 0, none⟩)]) 24 hc hck) ?_
  refine cd_seq ?_
  refine cd_region ?_
  refine st_alloc (h := 6) ty31 rfl rfl rfl (fun b6 => ?_)
  refine st (ev_assign rfl) rfl rfl rfl ?_
  refine op_nil ?_
  refine ax_then ?_
  refine At.regs (L' := [(0, _), (1, _), (2, _), (6, _), (7, _)]) (.cons rfl (.cons rfl (.cons rfl (.cons rfl (.cons rfl (.nil _)))))) ?_
  refine cd_seq ?_
  refine cd_seq ?_
  refine cd_region ?_
  refine st (ev_move rfl) rfl rfl rfl ?_
  refine st (ev_eql_ptr_nil Try.underlying56 rfl rfl) rfl rfl rfl ?_
  refine st (ev_move rfl) rfl rfl rfl ?_
  refine st (ev_move rfl) rfl rfl rfl ?_
  refine st_callv has43 rfl (fun w1 sw => cnum_any _ w1) rfl rfl ?_
  refine st (ev_not_if rfl) rfl rfl rfl ?_
  refine st (ev_pick_f rfl rfl) rfl rfl rfl ?_
  refine st (ev_move rfl) rfl rfl rfl ?_
  refine at_eq (i := 18) (v' := .bool false) rfl (by simp only [Value.bool.injEq, decide_eq_true_eq, decide_eq_false_iff_not]; exact fun h => h ha) ?_
  refine st (ev_move rfl) rfl rfl rfl ?_
  refine st_callv has43 rfl (fun w1 sw => cnum_any _ w1) rfl rfl ?_
  refine st (ev_not_if rfl) rfl rfl rfl ?_
  refine st (ev_pick_f rfl rfl) rfl rfl rfl ?_
  refine op_nil ?_
  refine ax_then ?_
  refine At.regs (L' := [(0, _), (1, _), (2, _), (6, _), (7, _), (22, _)]) (.cons rfl (.cons rfl (.cons rfl (.cons rfl (.cons rfl (.cons rfl (.nil _))))))) ?_
  refine cd_if_f rfl (by exact fun h => h ht) ?_
  refine cd_skip ?_
  refine ax_then ?_
  refine At.regs (L' := [(0, _), (1, _), (2, _), (6, _), (7, _)]) (.cons rfl (.cons rfl (.cons rfl (.cons rfl (.cons rfl (.nil _)))))) ?_
  refine cd_seq ?_
  refine cd_region ?_
  refine st_alloc (h := 8) ty100 rfl rfl rfl (fun b8 => ?_)
  refine at_own_nil 100 5 1 ?_
  refine at_heq (i := 100) (v' := .own (.slice none 0 0) 5 1 (ints .u8 ([]))) rfl rfl ?_
  refine op_nil ?_
  refine ax_then ?_
  refine At.regs (L' := [(0, _), (1, _), (2, _), (6, _), (7, _), (8, _)]) (.cons rfl (.cons rfl (.cons rfl (.cons rfl (.cons rfl (.cons rfl (.nil _))))))) ?_
  refine cd_seq ?_
  refine cd_region ?_
  refine st (ev_move rfl) rfl rfl rfl ?_
  refine st (ev_move rfl) rfl rfl rfl ?_
  refine st_bsi (h := 26) (xs := [_, _, _]) Try.underlying49 ty3 (by decide) rfl rfl (by decide) rfl rfl (fun b26 => ?_)
  refine st_call has44 rfl (fun w1 sw => rn2 8 100 (wnums_any b8 (.slice none 0 0) (.slice (some ⟨b26, 0, none⟩) 3 3) [] [7, a, t] w1 (sw.blk_eq (h := 8) rfl) (sw.hold 100 _ rfl) (sw.own_notin (h := 8) (h' := 100) rfl rfl (by decide)) (sw.own_rd (h := 26) rfl) (sw.own_off (h := 8) (h' := 26) rfl rfl (by decide)) (sw.own_own (h := 100) (h' := 26) rfl rfl (by decide)) (by simp))) (mod_two (k := 8) (j := 100) rfl rfl) rfl rfl (fun v27 _ => ?_)
  refine at_heq (i := 100) (v' := .own (v27) 5 1 (ints .u8 (Ck.body a t))) rfl rfl ?_
  have hbl := Ck.body_len a t
  refine op_nil ?_
  refine ax_then ?_
  refine At.regs (L' := [(0, _), (6, _), (7, _), (8, _)]) (.cons rfl (.cons rfl (.cons rfl (.cons rfl (.nil _))))) ?_
  refine cd_join (ι := Nat × Value × Value) (fun x => True) (fun x => [(0, .pointer (some ⟨cb, 0, none⟩)), (6, .pointer (some ⟨b6, 0, none⟩)), (8, .pointer (some ⟨b8, 0, none⟩)), (9, .pointer (some ⟨x.1, 0, none⟩)), (10, .int .i64 0)]) (fun x => [(0, .blk (kb) (.cells (Ky.cells s lv ((n + 1 : Nat) : Int)).toArray 133)), (6, .blk (b6) (.cells ([.slice none 0 0, .slice none 0 0]).toArray 31)), (9, .blk (x.1) (.cells ([.int .i64 (n : Int), x.2.1, x.2.2]).toArray 80)), (134, .own (x.2.1) 55 32 (flat (sign s n (Ck.body a t) 36))), (135, .own (x.2.2) 55 32 (flat (path (Ky.leaves s 16) n)))]) (fun x => [(20, .sl (lv) 32 (flat (Ky.leaves s 16))), (24, .mem cb 0 [.pointer (some ⟨kb, 0, none⟩)]), (30, .sl (v27) 1 (ints .u8 (Ck.body a t))), (31, .mem b8 0 [v27])]) ?_ (fun x hj => ?_)
  ·
    refine at_freeze (h := 100) (H' := [(0, _), (6, _), (8, _), (26, _)]) 30 rfl (.cons rfl (.cons rfl (.cons rfl (.cons rfl (.nil _))))) rfl ?_
    refine at_freeze_blk (h := 8) (H' := [(0, _), (6, _), (26, _)]) 31 rfl (.cons rfl (.cons rfl (.cons rfl (.nil _)))) rfl ?_
    refine cd_mix hmix ?_
    refine mx (i := 0) rfl (by decide +kernel) (by decide +kernel) (by decide +kernel) rfl (fun w0 => ev_move rfl) rfl rfl (Sub.refl _) ?_
    refine mx (i := 1) rfl (by decide +kernel) (by decide +kernel) (by decide +kernel) rfl (fun w0 => ev_nilCheck rfl) rfl rfl (Sub.refl _) ?_
    refine mx (i := 2) rfl (by decide +kernel) (by decide +kernel) (by decide +kernel) rfl (fun w0 => ev_fieldAddr (b := _) Try.underlying98 (f := _) rfl ty95 (by decide) rfl) rfl rfl (Sub.refl _) ?_
    refine mx (i := 3) rfl (by decide +kernel) (by decide +kernel) (by decide +kernel) rfl (fun w0 => ld_mem1 (h := 24) ty95 rfl rfl rfl (Nat.zero_add _).symm rfl) rfl rfl (Sub.refl _) ?_
    refine mx_two (i := 4) (j := 9) (by decide +kernel) (Sub.refl _) ?_ ?_
    ·
      refine wo (i := 4) rfl ?_
      refine st_call has46 rfl (fun w1 sw => rn 33 (wout_any b8 v27 (Ck.body a t) w1 (by omega) (sw.mem_lies (h := 31) rfl) (sw.sl_rd (h := 30) rfl))) nil_all rfl rfl (fun v33 _ => ?_)
      refine op_nil ?_
      refine ax_then ?_
      refine mx_two (i := 5) (j := 9) (by decide +kernel) (Sub.refl _) ?_ ?_
      ·
        refine wo (i := 5) rfl ?_
        refine st_call has45 rfl (fun w1 sw => rn3 0 134 135 (signk_any kb lv v33 s (Ck.body a t) n w1 hl hn (by omega) (sw.blk_eq (h := 0) rfl) (sw.sl_rd (h := 20) rfl) (sw.off 20 _ 0 _ rfl rfl _ (by simp [Ent.ids])) (sw.own_rd (h := 33) rfl) (sw.own_off (h := 0) (h' := 33) rfl rfl (by decide)))) (mod_blk3 rfl) rfl rfl (fun x34 _ => ?_)
        obtain ⟨va, vb⟩ := x34
        dsimp only
        refine at_own_shape (h := 134) rfl (fun hsa34 => ?_)
        refine at_own_shape (h := 135) rfl (fun hsb34 => ?_)
        refine op_nil ?_
        refine ax_then ?_
        refine mx (i := 6) rfl (by decide +kernel) (by decide +kernel) (by decide +kernel) rfl (fun w0 => ev_move rfl) rfl rfl (Sub.refl _) ?_
        refine mx (i := 7) rfl (by decide +kernel) (by decide +kernel) (by decide +kernel) rfl (fun w0 => ev_extract rfl rfl) rfl rfl (Sub.refl _) ?_
        refine mx (i := 8) rfl (by decide +kernel) (by decide +kernel) (by decide +kernel) rfl (fun w0 => ev_extract rfl rfl) rfl rfl (Sub.refl _) ?_
        refine mx_one (i := 9) (by decide +kernel) (Sub.refl _) ?_
        refine wo (i := 9) rfl ?_
        refine st_alloc (h := 9) ty80 rfl rfl rfl (fun b9 => ?_)
        refine op_nil ?_
        refine ax_then ?_
        refine mx_one (i := 10) (by decide +kernel) (Sub.refl _) ?_
        refine wo (i := 10) rfl ?_
        refine st_store_all 9 ty80 rfl rfl rfl rfl rfl (by intro u hu; simp at hu; rcases hu with rfl | rfl | rfl; rfl; exact hsa34.2; exact hsb34.2) rfl rfl ?_
        refine op_nil ?_
        refine ax_then ?_
        refine mx (i := 11) rfl (by decide +kernel) (by decide +kernel) (by decide +kernel) rfl (fun w0 => ev_assign rfl) rfl rfl (Sub.refl _) ?_
        refine mx_done (by decide +kernel) (Sub.refl _) ?_
        exact at_met ((b9, va, vb)) (trivial) (.cons rfl (.cons rfl (.cons rfl (.cons rfl (.cons rfl (.nil _)))))) (.cons rfl (.cons rfl (.cons rfl (.cons rfl (.cons rfl (.nil _)))))) (.cons rfl (.cons rfl (.cons rfl (.cons rfl (.nil _)))))
      ·
        refine wo (i := 9) rfl ?_
        refine st_alloc (h := 9) ty80 rfl rfl rfl (fun b9 => ?_)
        refine op_nil ?_
        refine ax_then ?_
        refine mx_one (i := 5) (by decide +kernel) (Sub.refl _) ?_
        refine wo (i := 5) rfl ?_
        refine st_call has45 rfl (fun w1 sw => rn3 0 134 135 (signk_any kb lv v33 s (Ck.body a t) n w1 hl hn (by omega) (sw.blk_eq (h := 0) rfl) (sw.sl_rd (h := 20) rfl) (sw.off 20 _ 0 _ rfl rfl _ (by simp [Ent.ids])) (sw.own_rd (h := 33) rfl) (sw.own_off (h := 0) (h' := 33) rfl rfl (by decide)))) (mod_blk3 rfl) rfl rfl (fun x34 _ => ?_)
        obtain ⟨va, vb⟩ := x34
        dsimp only
        refine at_own_shape (h := 134) rfl (fun hsa34 => ?_)
        refine at_own_shape (h := 135) rfl (fun hsb34 => ?_)
        refine op_nil ?_
        refine ax_then ?_
        refine mx (i := 6) rfl (by decide +kernel) (by decide +kernel) (by decide +kernel) rfl (fun w0 => ev_move rfl) rfl rfl (Sub.refl _) ?_
        refine mx (i := 7) rfl (by decide +kernel) (by decide +kernel) (by decide +kernel) rfl (fun w0 => ev_extract rfl rfl) rfl rfl (Sub.refl _) ?_
        refine mx (i := 8) rfl (by decide +kernel) (by decide +kernel) (by decide +kernel) rfl (fun w0 => ev_extract rfl rfl) rfl rfl (Sub.refl _) ?_
        refine mx_one (i := 10) (by decide +kernel) (Sub.refl _) ?_
        refine wo (i := 10) rfl ?_
        refine st_store_all 9 ty80 rfl rfl rfl rfl rfl (by intro u hu; simp at hu; rcases hu with rfl | rfl | rfl; rfl; exact hsa34.2; exact hsb34.2) rfl rfl ?_
        refine op_nil ?_
        refine ax_then ?_
        refine mx (i := 11) rfl (by decide +kernel) (by decide +kernel) (by decide +kernel) rfl (fun w0 => ev_assign rfl) rfl rfl (Sub.refl _) ?_
        refine mx_done (by decide +kernel) (Sub.refl _) ?_
        exact at_met ((b9, va, vb)) (trivial) (.cons rfl (.cons rfl (.cons rfl (.cons rfl (.cons rfl (.nil _)))))) (.cons rfl (.cons rfl (.cons rfl (.cons rfl (.cons rfl (.nil _)))))) (.cons rfl (.cons rfl (.cons rfl (.cons rfl (.nil _)))))
    ·
      refine wo (i := 9) rfl ?_
      refine st_alloc (h := 9) ty80 rfl rfl rfl (fun b9 => ?_)
      refine op_nil ?_
      refine ax_then ?_
      refine mx_one (i := 4) (by decide +kernel) (Sub.refl _) ?_
      refine wo (i := 4) rfl ?_
      refine st_call has46 rfl (fun w1 sw => rn 33 (wout_any b8 v27 (Ck.body a t) w1 (by omega) (sw.mem_lies (h := 31) rfl) (sw.sl_rd (h := 30) rfl))) nil_all rfl rfl (fun v33 _ => ?_)
      refine op_nil ?_
      refine ax_then ?_
      refine mx_one (i := 5) (by decide +kernel) (Sub.refl _) ?_
      refine wo (i := 5) rfl ?_
      refine st_call has45 rfl (fun w1 sw => rn3 0 134 135 (signk_any kb lv v33 s (Ck.body a t) n w1 hl hn (by omega) (sw.blk_eq (h := 0) rfl) (sw.sl_rd (h := 20) rfl) (sw.off 20 _ 0 _ rfl rfl _ (by simp [Ent.ids])) (sw.own_rd (h := 33) rfl) (sw.own_off (h := 0) (h' := 33) rfl rfl (by decide)))) (mod_blk3 rfl) rfl rfl (fun x34 _ => ?_)
      obtain ⟨va, vb⟩ := x34
      dsimp only
      refine at_own_shape (h := 134) rfl (fun hsa34 => ?_)
      refine at_own_shape (h := 135) rfl (fun hsb34 => ?_)
      refine op_nil ?_
      refine ax_then ?_
      refine mx (i := 6) rfl (by decide +kernel) (by decide +kernel) (by decide +kernel) rfl (fun w0 => ev_move rfl) rfl rfl (Sub.refl _) ?_
      refine mx (i := 7) rfl (by decide +kernel) (by decide +kernel) (by decide +kernel) rfl (fun w0 => ev_extract rfl rfl) rfl rfl (Sub.refl _) ?_
      refine mx (i := 8) rfl (by decide +kernel) (by decide +kernel) (by decide +kernel) rfl (fun w0 => ev_extract rfl rfl) rfl rfl (Sub.refl _) ?_
      refine mx_one (i := 10) (by decide +kernel) (Sub.refl _) ?_
      refine wo (i := 10) rfl ?_
      refine st_store_all 9 ty80 rfl rfl rfl rfl rfl (by intro u hu; simp at hu; rcases hu with rfl | rfl | rfl; rfl; exact hsa34.2; exact hsb34.2) rfl rfl ?_
      refine op_nil ?_
      refine ax_then ?_
      refine mx (i := 11) rfl (by decide +kernel) (by decide +kernel) (by decide +kernel) rfl (fun w0 => ev_assign rfl) rfl rfl (Sub.refl _) ?_
      refine mx_done (by decide +kernel) (Sub.refl _) ?_
      exact at_met ((b9, va, vb)) (trivial) (.cons rfl (.cons rfl (.cons rfl (.cons rfl (.cons rfl (.nil _)))))) (.cons rfl (.cons rfl (.cons rfl (.cons rfl (.cons rfl (.nil _)))))) (.cons rfl (.cons rfl (.cons rfl (.cons rfl (.nil _)))))
  ·
    obtain ⟨b9, va, vb⟩ := x
    dsimp only
    obtain ⟨m, hm⟩ : ∃ m : Qm.Mark, m = Ck.mk s n (Ck.body a t) va vb := ⟨_, rfl⟩
    have hmc : (Qm.mcells m).length = 35 := by rw [hm]; simp [Qm.mcells, Ck.mk, ints_length, Ky.keyPub_len]
    refine cd_seq ?_
    refine cd_seq ?_
    refine cd_region ?_
    refine st (ev_move rfl) rfl rfl rfl ?_
    refine st (ev_neq rfl rfl) rfl rfl rfl ?_
    refine op_nil ?_
    refine ax_then ?_
    refine At.regs (L' := [(0, _), (6, _), (8, _), (9, _), (10, _), (38, _)]) (.cons rfl (.cons rfl (.cons rfl (.cons rfl (.cons rfl (.cons rfl (.nil _))))))) ?_
    refine cd_if_f rfl (fun h => h rfl) ?_
    refine cd_skip ?_
    refine ax_then ?_
    refine At.regs (L' := [(0, _), (6, _), (8, _), (9, _)]) (.cons rfl (.cons rfl (.cons rfl (.cons rfl (.nil _))))) ?_
    refine cd_seq ?_
    refine at_freeze_blk (h := 9) (H' := [(0, _), (6, _), (134, _), (135, _)]) 32 rfl (.cons rfl (.cons rfl (.cons rfl (.cons rfl (.nil _))))) rfl ?_
    refine cd_mix hmix ?_
    refine mx (i := 1) rfl (by decide +kernel) (by decide +kernel) (by decide +kernel) rfl (fun w0 => ev_move rfl) rfl rfl (Sub.refl _) ?_
    refine mx (i := 3) rfl (by decide +kernel) (by decide +kernel) (by decide +kernel) rfl (fun w0 => ld_mem_all (h := 32) ty80 rfl rfl rfl (by first | omega | (simp only [List.length_append, List.length_cons, List.length_nil, List.length_set, List.length_replicate, List.length_take, List.length_drop, ints_length, wr_length, sha_len, node_len, recov_len, Ky.named_len, Ky.keyPub_len, Ky.hashOf_len] <;> omega) | rfl)) rfl rfl (Sub.refl _) ?_
    refine mx_one (i := 0) (by decide +kernel) (Sub.refl _) ?_
    refine wo (i := 0) rfl ?_
    refine st_call has46 rfl (fun w1 sw => rn 41 (wout_any b8 v27 (Ck.body a t) w1 (by omega) (sw.mem_lies (h := 31) rfl) (sw.sl_rd (h := 30) rfl))) nil_all rfl rfl (fun v41 _ => ?_)
    refine at_own_shape (h := 41) rfl (fun hsv41 => ?_)
    refine op_nil ?_
    refine ax_then ?_
    refine mx_one (i := 2) (by decide +kernel) (Sub.refl _) ?_
    refine wo (i := 2) rfl ?_
    refine st_callv has24 rfl (fun w1 sw => cpub_any cb kb lv s (n + 1) w1 hl (sw.mem_lies (h := 24) rfl) (lies_blk (sw.blk_eq (h := 0) rfl)) (sw.sl_rd (h := 20) rfl)) rfl rfl ?_
    refine op_nil ?_
    refine ax_then ?_
    refine mx (i := 4) rfl (by decide +kernel) (by decide +kernel) (by decide +kernel) rfl (fun w0 => ev_build_struct ty82 rfl pl82 rfl ((fill_put (i := 0) (off := 0) (n := 32) (vs := ints .u8 (Ky.keyPub s)) rfl rfl (by rw [ints_length, Ky.keyPub_len]) (Nat.le_of_ble_eq_true rfl)).trans ((fill_put (i := 1) (off := 32) (n := 3) (vs := [.int .i64 (n : Int), va, vb]) rfl rfl rfl (by rw [wr_length (by rw [ints_length, Ky.keyPub_len]; exact Nat.le_of_ble_eq_true rfl)]; exact Nat.le_of_ble_eq_true rfl)).trans fill_nil))) rfl rfl (Sub.refl _) ?_
    refine at_eq (i := 45) (v' := .agg (Qm.mcells m).toArray) rfl (congrArg (fun x => Value.agg (List.toArray x)) ((Qm.mark_new (Ky.keyPub_len _) _ _ _).trans (by rw [hm]; rfl))) ?_
    refine mx_one (i := 5) (by decide +kernel) (Sub.refl _) ?_
    refine wo (i := 5) rfl ?_
    refine st_bs1 (h := 46) Try.underlying29 ty82 rfl rfl hmc (by decide) (by decide) rfl rfl (fun b46 => ?_)
    refine at_heq (i := 46) (v' := .own (.slice (some ⟨b46, 0, none⟩) 1 1) 82 35 (Qm.mflat ([Ck.mk s n (Ck.body a t) va vb]))) rfl (by rw [← hm]; simp [Qm.mflat]) ?_
    refine op_nil ?_
    refine ax_then ?_
    refine mx (i := 6) rfl (by decide +kernel) (by decide +kernel) (by decide +kernel) rfl (fun w0 => ev_build_struct ty31 rfl pl31 rfl ((fill_put (i := 0) (off := 0) (n := 1) (vs := [v41]) rfl hsv41.1 rfl (Nat.le_of_ble_eq_true rfl)).trans ((fill_put (i := 1) (off := 1) (n := 1) (vs := [.slice (some ⟨b46, 0, none⟩) 1 1]) rfl rfl rfl (Nat.le_of_ble_eq_true rfl)).trans fill_nil))) rfl rfl (Sub.refl _) ?_
    refine at_eq (i := 47) (v' := .agg (List.toArray [v41, .slice (some ⟨b46, 0, none⟩) 1 1])) rfl rfl ?_
    refine mx_one (i := 7) (by decide +kernel) (Sub.refl _) ?_
    refine wo (i := 7) rfl ?_
    refine st_store_all 6 ty31 rfl rfl rfl rfl rfl (by intro u hu; simp at hu; rcases hu with rfl | rfl; exact hsv41.2; rfl) rfl rfl ?_
    refine op_nil ?_
    refine ax_then ?_
    refine mx (i := 8) rfl (by decide +kernel) (by decide +kernel) (by decide +kernel) rfl (fun w0 => ev_assign rfl) rfl rfl (Sub.refl _) ?_
    refine mx_done (by decide +kernel) (Sub.refl _) ?_
    refine ax_then ?_
    refine At.regs (L' := [(6, _), (7, _)]) (.cons rfl (.cons rfl (.nil _))) ?_
    refine cd_ret ?_
    refine rt_cell_tmp (h0 := 6) (.inl rfl) Try.results25 ty31 rfl rfl rfl (by first | omega | (simp only [List.length_append, List.length_cons, List.length_nil, List.length_set, List.length_replicate, List.length_take, List.length_drop, ints_length, wr_length, sha_len, node_len, recov_len, Ky.named_len, Ky.keyPub_len, Ky.hashOf_len] <;> omega) | rfl) rfl ?_
    exact fun w1 sw => ⟨(v41, .slice (some ⟨b46, 0, none⟩) 1 1, va, vb), trivial, rfl, (sw.gives (N := [(0, _), (41, _), (46, _), (134, _), (135, _)]) (.cons rfl (.cons rfl (.cons rfl (.cons rfl (.cons rfl (.nil _))))))).rn5 (by decide)⟩
set_option maxRecDepth 20000 in
set_option maxHeartbeats 1000000 in
theorem qbody_any (a t : Int) (w : World) : Calls Try.prog 48 #[.int .i64 a, .int .i64 t] w (Post (ι := Value) w [] (fun _ => True) (fun v => v) (fun v => [(0, .own (v) 5 1 (ints .u8 (Ck.body a t)))])) := by
  refine calls_at (vs := [.int .i64 a, .int .i64 t]) (X := []) (H := []) (F := []) 9 Try.func48 rfl rfl rfl (Sat.start0 w) ?_
  refine cd_seq ?_
  refine cd_region ?_
  refine st (ev_assign rfl) rfl rfl rfl ?_
  refine at_own_nil 4 5 1 ?_
  refine at_heq (i := 4) (v' := .own (.slice none 0 0) 5 1 (ints .u8 [])) rfl rfl ?_
  refine op_nil ?_
  refine ax_then ?_
  refine At.regs (L' := [(0, _), (1, _), (4, _)]) (.cons rfl (.cons rfl (.cons rfl (.nil _)))) ?_
  refine cd_seq ?_
  refine cd_region ?_
  refine st (ev_move rfl) rfl rfl rfl ?_
  refine st (ev_move rfl) rfl rfl rfl ?_
  refine st_bsi (h := 7) (xs := [_, _, _]) Try.underlying49 ty3 (by decide) rfl rfl (by decide) rfl rfl (fun b7 => ?_)
  refine st_call has71 rfl (fun w1 sw => rn 8 (qnums_any (.slice (some ⟨b7, 0, none⟩) 3 3) [7, a, t] w1 (by simp) (sw.own_rd (h := 7) rfl))) nil_all rfl rfl (fun v8 _ => ?_)
  refine st (ev_assign rfl) rfl rfl rfl ?_
  refine op_nil ?_
  refine ax_then ?_
  refine At.regs (L' := [(4, _)]) (.cons rfl (.nil _)) ?_
  refine cd_ret ?_
  refine rt_tmp (.inl rfl) Try.results48 rfl ?_
  exact fun w1 sw => ⟨v8, trivial, rfl, (sw.gives (N := [(8, _)]) (.cons rfl (.nil _))).rn 0⟩
set_option maxRecDepth 20000 in
set_option maxHeartbeats 4000000 in
theorem qattest_used (cb kb : Nat) (lv : Value) (s : List Int) (n : Nat) (a t : Int) (w : World) (hl : s.length = 32) (ha : Ck.isN a) (ht : Ck.isN t) (hn : 16 ≤ n) (hk : Lies w kb 0 (Ky.rcells s lv (Ky.keyPub s) ((n : Nat) : Int))) (hc : Lies w cb 0 [.pointer (some ⟨kb, 0, none⟩)]) : Calls Try.prog 26 #[.pointer (some ⟨cb, 0, none⟩), .int .i64 a, .int .i64 t] w (PostV w (.tuple #[.agg (List.toArray [.slice none 0 0, .slice none 0 0]), .int .i64 3])) := by
  refine calls_at (vs := [.pointer (some ⟨cb, 0, none⟩), .int .i64 a, .int .i64 t]) (X := []) (H := []) (F := [(24, .mem cb 0 [.pointer (some ⟨kb, 0, none⟩)]), (23, .mem kb 0 (Ky.rcells s lv (Ky.keyPub s) ((n : Nat) : Int)))]) 48 Try.func26 rfl rfl rfl (((Sat.start0 w).read (f := .mem kb 0 (Ky.rcells s lv (Ky.keyPub s) ((n : Nat) : Int))) 23 hk off_nil).read (f := .mem cb 0 [.pointer (some ⟨kb, 0, none⟩)]) 24 hc off_nil) ?_
  refine cd_seq ?_
  refine cd_region ?_
  refine st_alloc (h := 6) ty31 rfl rfl rfl (fun b6 => ?_)
  refine st (ev_assign rfl) rfl rfl rfl ?_
  refine op_nil ?_
  refine ax_then ?_
  refine At.regs (L' := [(0, _), (1, _), (2, _), (6, _), (7, _)]) (.cons rfl (.cons rfl (.cons rfl (.cons rfl (.cons rfl (.nil _)))))) ?_
  refine cd_seq ?_
  refine cd_seq ?_
  refine cd_region ?_
  refine st (ev_move rfl) rfl rfl rfl ?_
  refine st_callv has47 rfl (fun w1 sw => qcnum_any _ w1) rfl rfl ?_
  refine st (ev_not_if rfl) rfl rfl rfl ?_
  refine st (ev_move rfl) rfl rfl rfl ?_
  refine at_eq (i := 14) (v' := .bool false) rfl (by simp only [Value.bool.injEq, decide_eq_true_eq, decide_eq_false_iff_not]; exact fun h => h ha) ?_
  refine st (ev_move rfl) rfl rfl rfl ?_
  refine st_callv has47 rfl (fun w1 sw => qcnum_any _ w1) rfl rfl ?_
  refine st (ev_not_if rfl) rfl rfl rfl ?_
  refine st (ev_pick_f rfl rfl) rfl rfl rfl ?_
  refine op_nil ?_
  refine ax_then ?_
  refine At.regs (L' := [(0, _), (1, _), (2, _), (6, _), (7, _), (18, _)]) (.cons rfl (.cons rfl (.cons rfl (.cons rfl (.cons rfl (.cons rfl (.nil _))))))) ?_
  refine cd_if_f rfl (by exact fun h => h ht) ?_
  refine cd_skip ?_
  refine ax_then ?_
  refine At.regs (L' := [(0, _), (1, _), (2, _), (6, _), (7, _)]) (.cons rfl (.cons rfl (.cons rfl (.cons rfl (.cons rfl (.nil _)))))) ?_
  refine cd_seq ?_
  refine cd_region ?_
  refine st (ev_move rfl) rfl rfl rfl ?_
  refine st (ev_move rfl) rfl rfl rfl ?_
  refine st_call has48 rfl (fun w1 sw => rn 22 (qbody_any a t w1)) nil_all rfl rfl (fun v22 _ => ?_)
  have hbl := Ck.body_len a t
  refine at_own_shape (h := 22) rfl (fun hsv22 => ?_)
  refine st (ev_assign rfl) rfl rfl rfl ?_
  refine op_nil ?_
  refine ax_then ?_
  refine At.regs (L' := [(0, _), (6, _), (7, _), (8, _)]) (.cons rfl (.cons rfl (.cons rfl (.cons rfl (.nil _))))) ?_
  refine cd_seq ?_
  refine cd_region ?_
  refine st (ev_move rfl) rfl rfl rfl ?_
  refine st (ev_nilCheck rfl) rfl rfl rfl ?_
  refine st (ev_fieldAddr (b := _) Try.underlying65 (f := _) rfl ty63 (by decide) rfl) rfl rfl rfl ?_
  refine st (ld_mem1 (h := 24) ty63 rfl rfl rfl (Nat.zero_add _).symm rfl) rfl rfl rfl ?_
  refine st (ev_move rfl) rfl rfl rfl ?_
  refine st_callv has40 rfl (fun w1 sw => rsignk_used kb lv s n v22 w1 hn hl (sw.mem_lies (h := 23) rfl)) rfl rfl ?_
  refine st (ev_move rfl) rfl rfl rfl ?_
  refine st (ev_extract rfl rfl) rfl rfl rfl ?_
  refine st (ev_extract rfl rfl) rfl rfl rfl ?_
  refine st_alloc (h := 9) ty80 rfl rfl rfl (fun b9 => ?_)
  refine st_store_all 9 ty80 rfl rfl rfl rfl (by first | omega | (simp only [List.length_append, List.length_cons, List.length_nil, List.length_set, List.length_replicate, List.length_take, List.length_drop, ints_length, wr_length, sha_len, node_len, recov_len, Ky.named_len, Ky.keyPub_len, Ky.hashOf_len] <;> omega) | rfl) (by first | (intro u hu; simp at hu; rcases hu with rfl | rfl <;> rfl) | (simp [Value.oneCell'])) (by first | omega | (simp only [List.length_append, List.length_cons, List.length_nil, List.length_set, List.length_replicate, List.length_take, List.length_drop, ints_length, wr_length, sha_len, node_len, recov_len, Ky.named_len, Ky.keyPub_len, Ky.hashOf_len] <;> omega) | rfl) rfl ?_
  refine st (ev_assign rfl) rfl rfl rfl ?_
  refine op_nil ?_
  refine ax_then ?_
  refine At.regs (L' := [(0, _), (6, _), (7, _), (8, _), (9, _), (10, _)]) (.cons rfl (.cons rfl (.cons rfl (.cons rfl (.cons rfl (.cons rfl (.nil _))))))) ?_
  refine cd_seq ?_
  refine cd_seq ?_
  refine cd_region ?_
  refine st (ev_move rfl) rfl rfl rfl ?_
  refine st (ev_neq rfl rfl) rfl rfl rfl ?_
  refine op_nil ?_
  refine ax_then ?_
  refine At.regs (L' := [(0, _), (6, _), (7, _), (8, _), (9, _), (10, _), (33, _)]) (.cons rfl (.cons rfl (.cons rfl (.cons rfl (.cons rfl (.cons rfl (.cons rfl (.nil _)))))))) ?_
  refine cd_if_t rfl (by decide) ?_
  refine cd_seq ?_
  refine cd_region ?_
  refine st (ev_build_struct ty31 rfl pl31 rfl rfl) rfl rfl rfl ?_
  refine st (ev_move rfl) rfl rfl rfl ?_
  refine st_store_all 6 ty31 rfl rfl rfl rfl (by first | omega | (simp only [List.length_append, List.length_cons, List.length_nil, List.length_set, List.length_replicate, List.length_take, List.length_drop, ints_length, wr_length, sha_len, node_len, recov_len, Ky.named_len, Ky.keyPub_len, Ky.hashOf_len] <;> omega) | rfl) (by first | (intro u hu; simp at hu; rcases hu with rfl | rfl <;> rfl) | (simp [Value.oneCell'])) (by first | omega | (simp only [List.length_append, List.length_cons, List.length_nil, List.length_set, List.length_replicate, List.length_take, List.length_drop, ints_length, wr_length, sha_len, node_len, recov_len, Ky.named_len, Ky.keyPub_len, Ky.hashOf_len] <;> omega) | rfl) rfl ?_
  refine st (ev_assign rfl) rfl rfl rfl ?_
  refine op_nil ?_
  refine ax_then ?_
  refine At.regs (L' := [(0, _), (6, _), (7, _), (8, _), (9, _)]) (.cons rfl (.cons rfl (.cons rfl (.cons rfl (.cons rfl (.nil _)))))) ?_
  refine cd_ret ?_
  refine ax_then_ret ?_
  refine rt_cell_tmp (h0 := 6) (.inl rfl) Try.results26 ty31 rfl rfl rfl (by first | omega | (simp only [List.length_append, List.length_cons, List.length_nil, List.length_set, List.length_replicate, List.length_take, List.length_drop, ints_length, wr_length, sha_len, node_len, recov_len, Ky.named_len, Ky.keyPub_len, Ky.hashOf_len] <;> omega) | rfl) rfl ?_
  exact fun w1 sw => ⟨rfl, sw.gives (.nil _)⟩
set_option maxRecDepth 20000 in
set_option maxHeartbeats 8000000 in
theorem qattest_any (cb kb : Nat) (lv : Value) (s : List Int) (n : Nat) (a t : Int) (w : World) (hl : s.length = 32) (ha : Ck.isN a) (ht : Ck.isN t) (hn : n < 16) (hb : w.heap[kb]? = some (.cells (Ky.rcells s lv (Ky.keyPub s) ((n : Nat) : Int)).toArray 62)) (h : Rd w lv 32 (flat (Ky.leaves s 16))) (hbv : FE.off kb (.sl (lv) 32 (flat (Ky.leaves s 16)))) (hc : Lies w cb 0 [.pointer (some ⟨kb, 0, none⟩)]) (hck : FE.off kb (.mem cb 0 [.pointer (some ⟨kb, 0, none⟩)])) : Calls Try.prog 26 #[.pointer (some ⟨cb, 0, none⟩), .int .i64 a, .int .i64 t] w (Post (ι := Value × Value × Value × Value) w [kb] (fun _ => True) (fun x => .tuple #[.agg (List.toArray [x.1, x.2.1]), .int .i64 0]) (fun x => [(0, .blk (kb) (.cells (Ky.rcells s lv (Ky.keyPub s) ((n + 1 : Nat) : Int)).toArray 62)), (1, .own (x.1) 5 1 (ints .u8 (Ck.body a t))), (2, .own (x.2.1) 82 35 (Qm.mflat ([Ck.mk s n (Ck.body a t) x.2.2.1 x.2.2.2]))), (3, .own (x.2.2.1) 55 32 (flat (sign s n (Ck.body a t) 36))), (4, .own (x.2.2.2) 55 32 (flat (path (Ky.leaves s 16) n)))])) := by
  refine calls_at (vs := [.pointer (some ⟨cb, 0, none⟩), .int .i64 a, .int .i64 t]) (X := [kb]) (H := [(0, .blk (kb) (.cells (Ky.rcells s lv (Ky.keyPub s) ((n : Nat) : Int)).toArray 62))]) (F := [(24, .mem cb 0 [.pointer (some ⟨kb, 0, none⟩)]), (20, .sl (lv) 32 (flat (Ky.leaves s 16)))]) 48 Try.func26 rfl rfl rfl (((Sat.blkX 0 hb).readb (f := .sl (lv) 32 (flat (Ky.leaves s 16))) 20 h hbv).readb (f := .mem cb 0 [.pointer (some ⟨kb, 0, none⟩)]) 24 hc hck) ?_
  refine cd_seq ?_
  refine cd_region ?_
  refine st_alloc (h := 6) ty31 rfl rfl rfl (fun b6 => ?_)
  refine st (ev_assign rfl) rfl rfl rfl ?_
  refine op_nil ?_
  refine ax_then ?_
  refine At.regs (L' := [(0, _), (1, _), (2, _), (6, _), (7, _)]) (.cons rfl (.cons rfl (.cons rfl (.cons rfl (.cons rfl (.nil _)))))) ?_
  refine cd_seq ?_
  refine cd_seq ?_
  refine cd_region ?_
  refine st (ev_move rfl) rfl rfl rfl ?_
  refine st_callv has47 rfl (fun w1 sw => qcnum_any _ w1) rfl rfl ?_
  refine st (ev_not_if rfl) rfl rfl rfl ?_
  refine st (ev_move rfl) rfl rfl rfl ?_
  refine at_eq (i := 14) (v' := .bool false) rfl (by simp only [Value.bool.injEq, decide_eq_true_eq, decide_eq_false_iff_not]; exact fun h => h ha) ?_
  refine st (ev_move rfl) rfl rfl rfl ?_
  refine st_callv has47 rfl (fun w1 sw => qcnum_any _ w1) rfl rfl ?_
  refine st (ev_not_if rfl) rfl rfl rfl ?_
  refine st (ev_pick_f rfl rfl) rfl rfl rfl ?_
  refine op_nil ?_
  refine ax_then ?_
  refine At.regs (L' := [(0, _), (1, _), (2, _), (6, _), (7, _), (18, _)]) (.cons rfl (.cons rfl (.cons rfl (.cons rfl (.cons rfl (.cons rfl (.nil _))))))) ?_
  refine cd_if_f rfl (by exact fun h => h ht) ?_
  refine cd_skip ?_
  refine ax_then ?_
  refine At.regs (L' := [(0, _), (1, _), (2, _), (6, _), (7, _)]) (.cons rfl (.cons rfl (.cons rfl (.cons rfl (.cons rfl (.nil _)))))) ?_
  refine cd_seq ?_
  refine cd_region ?_
  refine st (ev_move rfl) rfl rfl rfl ?_
  refine st (ev_move rfl) rfl rfl rfl ?_
  refine st_call has48 rfl (fun w1 sw => rn 22 (qbody_any a t w1)) nil_all rfl rfl (fun v22 _ => ?_)
  have hbl := Ck.body_len a t
  refine at_own_shape (h := 22) rfl (fun hsv22 => ?_)
  refine st (ev_assign rfl) rfl rfl rfl ?_
  refine op_nil ?_
  refine ax_then ?_
  refine At.regs (L' := [(0, _), (6, _), (7, _), (8, _)]) (.cons rfl (.cons rfl (.cons rfl (.cons rfl (.nil _))))) ?_
  refine cd_seq ?_
  refine cd_region ?_
  refine st (ev_move rfl) rfl rfl rfl ?_
  refine st (ev_nilCheck rfl) rfl rfl rfl ?_
  refine st (ev_fieldAddr (b := _) Try.underlying65 (f := _) rfl ty63 (by decide) rfl) rfl rfl rfl ?_
  refine st (ld_mem1 (h := 24) ty63 rfl rfl rfl (Nat.zero_add _).symm rfl) rfl rfl rfl ?_
  refine st (ev_move rfl) rfl rfl rfl ?_
  refine st_call has40 rfl (fun w1 sw => rn3 0 134 135 (rsignk_any kb lv v22 s (Ck.body a t) n w1 hl hn (by omega) (sw.blk_eq (h := 0) rfl) (sw.sl_rd (h := 20) rfl) (sw.off 20 _ 0 _ rfl rfl _ (by simp [Ent.ids])) (sw.own_rd (h := 22) rfl) (sw.own_off (h := 0) (h' := 22) rfl rfl (by decide)))) (mod_blk3 rfl) rfl rfl (fun x29 _ => ?_)
  obtain ⟨va, vb⟩ := x29
  dsimp only
  refine at_own_shape (h := 134) rfl (fun hsa29 => ?_)
  refine at_own_shape (h := 135) rfl (fun hsb29 => ?_)
  refine st (ev_move rfl) rfl rfl rfl ?_
  refine st (ev_extract rfl rfl) rfl rfl rfl ?_
  refine st (ev_extract rfl rfl) rfl rfl rfl ?_
  refine st_alloc (h := 9) ty80 rfl rfl rfl (fun b9 => ?_)
  refine st_store_all 9 ty80 rfl rfl rfl rfl rfl (by intro u hu; simp at hu; rcases hu with rfl | rfl | rfl; rfl; exact hsa29.2; exact hsb29.2) rfl rfl ?_
  refine st (ev_assign rfl) rfl rfl rfl ?_
  refine op_nil ?_
  refine ax_then ?_
  refine At.regs (L' := [(0, _), (6, _), (7, _), (8, _), (9, _), (10, _)]) (.cons rfl (.cons rfl (.cons rfl (.cons rfl (.cons rfl (.cons rfl (.nil _))))))) ?_
  refine cd_seq ?_
  refine cd_seq ?_
  refine cd_region ?_
  refine st (ev_move rfl) rfl rfl rfl ?_
  refine st (ev_neq rfl rfl) rfl rfl rfl ?_
  refine op_nil ?_
  refine ax_then ?_
  refine At.regs (L' := [(0, _), (6, _), (7, _), (8, _), (9, _), (10, _), (33, _)]) (.cons rfl (.cons rfl (.cons rfl (.cons rfl (.cons rfl (.cons rfl (.cons rfl (.nil _)))))))) ?_
  refine cd_if_f rfl (fun h => h rfl) ?_
  refine cd_skip ?_
  refine ax_then ?_
  refine At.regs (L' := [(0, _), (6, _), (7, _), (8, _), (9, _)]) (.cons rfl (.cons rfl (.cons rfl (.cons rfl (.cons rfl (.nil _)))))) ?_
  refine cd_seq ?_
  obtain ⟨m, hm⟩ : ∃ m : Qm.Mark, m = Ck.mk s n (Ck.body a t) va vb := ⟨_, rfl⟩
  have hmc : (Qm.mcells m).length = 35 := by rw [hm]; simp [Qm.mcells, Ck.mk, ints_length, Ky.keyPub_len]
  refine cd_mixp [(300, .mem kb 0 (Ky.rcells s lv (Ky.keyPub s) ((n + 1 : Nat) : Int))), (301, .mem b9 0 [.int .i64 (n : Int), va, vb]), (24, .mem cb 0 [.pointer (some ⟨kb, 0, none⟩)])] hmix ?_
  refine mxp (i := 0) rfl (by decide +kernel) (by decide +kernel) (by decide +kernel) rfl (fun w0 => ev_move rfl) rfl rfl (fun w sw => CF.cons (lies_blk (sw.blk_eq (h := 0) rfl)) (CF.cons (lies_blk (sw.blk_eq (h := 9) rfl)) (sw.cf (.cons rfl (.nil _))))) ?_
  refine mxp (i := 1) rfl (by decide +kernel) (by decide +kernel) (by decide +kernel) rfl (fun w0 => ev_move rfl) rfl rfl (fun w sw => CF.cons (lies_blk (sw.blk_eq (h := 0) rfl)) (CF.cons (lies_blk (sw.blk_eq (h := 9) rfl)) (sw.cf (.cons rfl (.nil _))))) ?_
  refine mxp (i := 2) rfl (by decide +kernel) (by decide +kernel) (by decide +kernel) rfl (fun w0 => ev_nilCheck rfl) rfl rfl (fun w sw => CF.cons (lies_blk (sw.blk_eq (h := 0) rfl)) (CF.cons (lies_blk (sw.blk_eq (h := 9) rfl)) (sw.cf (.cons rfl (.nil _))))) ?_
  refine mxp (i := 3) rfl (by decide +kernel) (by decide +kernel) (by decide +kernel) rfl (fun w0 => ev_fieldAddr (b := _) Try.underlying65 (f := _) rfl ty63 (by decide) rfl) rfl rfl (fun w sw => CF.cons (lies_blk (sw.blk_eq (h := 0) rfl)) (CF.cons (lies_blk (sw.blk_eq (h := 9) rfl)) (sw.cf (.cons rfl (.nil _))))) ?_
  refine mxp (i := 4) rfl (by decide +kernel) (by decide +kernel) (by decide +kernel) rfl (fun w0 => ld_mem1 (h := 24) ty63 rfl rfl rfl (Nat.zero_add _).symm rfl) rfl rfl (fun w sw => CF.cons (lies_blk (sw.blk_eq (h := 0) rfl)) (CF.cons (lies_blk (sw.blk_eq (h := 9) rfl)) (sw.cf (.cons rfl (.nil _))))) ?_
  refine mxp (i := 5) rfl (by decide +kernel) (by decide +kernel) (by decide +kernel) rfl (fun w0 => ev_nilCheck rfl) rfl rfl (fun w sw => CF.cons (lies_blk (sw.blk_eq (h := 0) rfl)) (CF.cons (lies_blk (sw.blk_eq (h := 9) rfl)) (sw.cf (.cons rfl (.nil _))))) ?_
  refine mxp (i := 6) rfl (by decide +kernel) (by decide +kernel) (by decide +kernel) rfl (fun w0 => ev_fieldAddr (b := _) Try.underlying62 (f := _) rfl ty55 (by decide) rfl) rfl rfl (fun w sw => CF.cons (lies_blk (sw.blk_eq (h := 0) rfl)) (CF.cons (lies_blk (sw.blk_eq (h := 9) rfl)) (sw.cf (.cons rfl (.nil _))))) ?_
  refine mxp (i := 7) rfl (by decide +kernel) (by decide +kernel) (by decide +kernel) rfl (fun w0 => ld_mem (h := 300) (k := 33) ty55 rfl rfl rfl rfl (by rw [Ky.rcells_len hl (Ky.keyPub_len _)]; decide)) rfl rfl (fun w sw => CF.cons (lies_blk (sw.blk_eq (h := 0) rfl)) (CF.cons (lies_blk (sw.blk_eq (h := 9) rfl)) (sw.cf (.cons rfl (.nil _))))) ?_
  refine at_eq (i := 43) (v' := .agg (ints .u8 (Ky.keyPub s)).toArray) rfl (congrArg (fun x => Value.agg (List.toArray x)) (Ky.rcells_pub hl (Ky.keyPub_len _) _ _)) ?_
  refine mxp (i := 8) rfl (by decide +kernel) (by decide +kernel) (by decide +kernel) rfl (fun w0 => ld_mem_all (h := 301) ty80 rfl rfl rfl (by first | omega | (simp only [List.length_append, List.length_cons, List.length_nil, List.length_set, List.length_replicate, List.length_take, List.length_drop, ints_length, wr_length, sha_len, node_len, recov_len, Ky.named_len, Ky.keyPub_len, Ky.hashOf_len] <;> omega) | rfl)) rfl rfl (fun w sw => CF.cons (lies_blk (sw.blk_eq (h := 0) rfl)) (CF.cons (lies_blk (sw.blk_eq (h := 9) rfl)) (sw.cf (.cons rfl (.nil _))))) ?_
  refine mxp (i := 9) rfl (by decide +kernel) (by decide +kernel) (by decide +kernel) rfl (fun w0 => ev_build_struct ty82 rfl pl82 rfl ((fill_put (i := 0) (off := 0) (n := 32) (vs := ints .u8 (Ky.keyPub s)) rfl rfl (by rw [ints_length, Ky.keyPub_len]) (Nat.le_of_ble_eq_true rfl)).trans ((fill_put (i := 1) (off := 32) (n := 3) (vs := [.int .i64 (n : Int), va, vb]) rfl rfl rfl (by rw [wr_length (by rw [ints_length, Ky.keyPub_len]; exact Nat.le_of_ble_eq_true rfl)]; exact Nat.le_of_ble_eq_true rfl)).trans fill_nil))) rfl rfl (fun w sw => CF.cons (lies_blk (sw.blk_eq (h := 0) rfl)) (CF.cons (lies_blk (sw.blk_eq (h := 9) rfl)) (sw.cf (.cons rfl (.nil _))))) ?_
  refine at_eq (i := 45) (v' := .agg (Qm.mcells m).toArray) rfl (congrArg (fun x => Value.agg (List.toArray x)) ((Qm.mark_new (Ky.keyPub_len _) _ _ _).trans (by rw [hm]; rfl))) ?_
  refine mxp_one (i := 10) (by decide +kernel) (fun w sw => CF.cons (lies_blk (sw.blk_eq (h := 0) rfl)) (CF.cons (lies_blk (sw.blk_eq (h := 9) rfl)) (sw.cf (.cons rfl (.nil _))))) ?_
  refine wo (i := 10) rfl ?_
  refine st_bs1 (h := 46) Try.underlying29 ty82 rfl rfl hmc (by decide) (by decide) rfl rfl (fun b46 => ?_)
  refine at_heq (i := 46) (v' := .own (.slice (some ⟨b46, 0, none⟩) 1 1) 82 35 (Qm.mflat ([Ck.mk s n (Ck.body a t) va vb]))) rfl (by rw [← hm]; simp [Qm.mflat]) ?_
  refine op_nil ?_
  refine ax_then ?_
  refine mxp (i := 11) rfl (by decide +kernel) (by decide +kernel) (by decide +kernel) rfl (fun w0 => ev_build_struct ty31 rfl pl31 rfl ((fill_put (i := 0) (off := 0) (n := 1) (vs := [v22]) rfl hsv22.1 rfl (Nat.le_of_ble_eq_true rfl)).trans ((fill_put (i := 1) (off := 1) (n := 1) (vs := [.slice (some ⟨b46, 0, none⟩) 1 1]) rfl rfl rfl (Nat.le_of_ble_eq_true rfl)).trans fill_nil))) rfl rfl (fun w sw => CF.cons (lies_blk (sw.blk_eq (h := 0) rfl)) (CF.cons (lies_blk (sw.blk_eq (h := 9) rfl)) (sw.cf (.cons rfl (.nil _))))) ?_
  refine at_eq (i := 47) (v' := .agg (List.toArray [v22, .slice (some ⟨b46, 0, none⟩) 1 1])) rfl rfl ?_
  refine mxp_one (i := 12) (by decide +kernel) (fun w sw => CF.cons (lies_blk (sw.blk_eq (h := 0) rfl)) (CF.cons (lies_blk (sw.blk_eq (h := 9) rfl)) (sw.cf (.cons rfl (.nil _))))) ?_
  refine wo (i := 12) rfl ?_
  refine st_store_all 6 ty31 rfl rfl rfl rfl rfl (by intro u hu; simp at hu; rcases hu with rfl | rfl; exact hsv22.2; rfl) rfl rfl ?_
  refine op_nil ?_
  refine ax_then ?_
  refine mxp (i := 13) rfl (by decide +kernel) (by decide +kernel) (by decide +kernel) rfl (fun w0 => ev_assign rfl) rfl rfl (fun w sw => CF.cons (lies_blk (sw.blk_eq (h := 0) rfl)) (CF.cons (lies_blk (sw.blk_eq (h := 9) rfl)) (sw.cf (.cons rfl (.nil _))))) ?_
  refine mxp_done (by decide +kernel) (fun w sw => CF.cons (lies_blk (sw.blk_eq (h := 0) rfl)) (CF.cons (lies_blk (sw.blk_eq (h := 9) rfl)) (sw.cf (.cons rfl (.nil _))))) ?_
  refine ax_then ?_
  refine At.regs (L' := [(6, _), (7, _)]) (.cons rfl (.cons rfl (.nil _))) ?_
  refine cd_ret ?_
  refine rt_cell_tmp (h0 := 6) (.inl rfl) Try.results26 ty31 rfl rfl rfl (by first | omega | (simp only [List.length_append, List.length_cons, List.length_nil, List.length_set, List.length_replicate, List.length_take, List.length_drop, ints_length, wr_length, sha_len, node_len, recov_len, Ky.named_len, Ky.keyPub_len, Ky.hashOf_len] <;> omega) | rfl) rfl ?_
  exact fun w1 sw => ⟨(v22, .slice (some ⟨b46, 0, none⟩) 1 1, va, vb), trivial, rfl, (sw.gives (N := [(0, _), (22, _), (46, _), (134, _), (135, _)]) (.cons rfl (.cons rfl (.cons rfl (.cons rfl (.cons rfl (.nil _))))))).rn5 (by decide)⟩
end Go.Proofs.Ytgfnmolbagilmaa

namespace Go.Proofs.Ytgfnmolbagilmaa
open Go Go.RowKit Fw
open Sha
open Ots
open Mk
set_option linter.unusedVariables false
set_option linter.unusedSimpArgs false
set_option maxRecDepth 20000 in
set_option maxHeartbeats 4000000 in
theorem known18_any (w : World) : Calls Try.prog 30 #[] w (PostV w (.bool true)) := by
  refine calls_at (vs := []) (X := []) (H := []) (F := []) 45 Try.func30 rfl rfl rfl (Sat.start0 w) ?_
  refine cd_seq ?_
  refine cd_region ?_
  refine st (ev_assign rfl) rfl rfl rfl ?_
  refine op_nil ?_
  refine ax_then ?_
  refine At.regs (L' := [(0, _)]) (.cons rfl (.nil _)) ?_
  refine cd_seq ?_
  refine cd_region ?_
  refine st (ev_build_array ty55 rfl ty5 rfl rfl) rfl rfl rfl ?_
  refine at_eq (i := 8) (v' := .agg (ints .u8 ((1 :: List.replicate 31 0))).toArray) rfl (by kernel_rfl) ?_
  refine st_call has22 rfl (fun w1 sw => rn3 9 209 309 (cnew_any (1 :: List.replicate 31 0) w1 rfl)) nil_all rfl rfl (fun x9 _ => ?_)
  obtain ⟨cb, kb, lv⟩ := x9
  dsimp only
  refine at_freeze_blk (h := 9) (H' := [(209, _), (309, _)]) 24 rfl (.cons rfl (.cons rfl (.nil _))) rfl ?_
  refine st (ev_assign rfl) rfl rfl rfl ?_
  refine op_nil ?_
  refine ax_then ?_
  refine At.regs (L' := [(0, _), (1, _)]) (.cons rfl (.cons rfl (.nil _))) ?_
  refine cd_seq ?_
  refine cd_seq ?_
  refine cd_region ?_
  refine st (ev_move rfl) rfl rfl rfl ?_
  refine st (ev_eql_ptr_nil Try.underlying56 rfl rfl) rfl rfl rfl ?_
  refine op_nil ?_
  refine ax_then ?_
  refine At.regs (L' := [(0, _), (1, _), (11, _)]) (.cons rfl (.cons rfl (.cons rfl (.nil _)))) ?_
  refine cd_false rfl ?_
  refine cd_skip ?_
  refine ax_then ?_
  refine At.regs (L' := [(0, _), (1, _)]) (.cons rfl (.cons rfl (.nil _))) ?_
  refine cd_seq ?_
  refine cd_region ?_
  refine st (ev_move rfl) rfl rfl rfl ?_
  refine st_call has25 rfl (fun w1 sw => rn5 209 401 402 403 404 (attest_any cb kb lv (1 :: List.replicate 31 0) 0 (5) (9) w1 rfl (⟨by decide, by decide⟩ : Ck.isN 5) (⟨by decide, by decide⟩ : Ck.isN 9) (by decide) (sw.blk_eq (h := 209) rfl) (sw.own_rd (h := 309) rfl) (sw.own_off (h := 209) (h' := 309) rfl rfl (by decide)) (sw.mem_lies (h := 24) rfl) (sw.off 24 _ 209 _ rfl rfl _ (by simp [Ent.ids])))) (mod_blk5 rfl) rfl rfl (fun x14 _ => ?_)
  obtain ⟨bv14, mv14, va14, vb14⟩ := x14
  dsimp only
  refine at_own_shape (h := 401) rfl (fun hsb14 => ?_)
  refine at_own_shape (h := 402) rfl (fun hsm14 => ?_)
  refine st (ev_move rfl) rfl rfl rfl ?_
  refine st (ev_extract rfl rfl) rfl rfl rfl ?_
  refine st (ev_extract rfl rfl) rfl rfl rfl ?_
  refine st_alloc (h := 2) ty31 rfl rfl rfl (fun b2 => ?_)
  refine st_store_all 2 ty31 rfl rfl rfl rfl rfl (by intro u hu; simp at hu; rcases hu with rfl | rfl; exact hsb14.2; exact hsm14.2) rfl rfl ?_
  refine st (ev_assign rfl) rfl rfl rfl ?_
  refine op_nil ?_
  refine ax_then ?_
  refine At.regs (L' := [(0, _), (1, _), (2, _), (3, _)]) (.cons rfl (.cons rfl (.cons rfl (.cons rfl (.nil _))))) ?_
  refine cd_seq ?_
  refine at_freeze_blk (h := 2) (H' := [(209, _), (309, _), (401, _), (402, _), (403, _), (404, _)]) 25 rfl (.cons rfl (.cons rfl (.cons rfl (.cons rfl (.cons rfl (.cons rfl (.nil _))))))) rfl ?_
  have hchk6 := Ck.chk_own (1 :: List.replicate 31 0) (n := 0) (by decide) (⟨by decide, by decide⟩ : Ck.isN 5) (⟨by decide, by decide⟩ : Ck.isN 9) va14 vb14 6
  have hchk5 := Ck.chk_own (1 :: List.replicate 31 0) (n := 0) (by decide) (⟨by decide, by decide⟩ : Ck.isN 5) (⟨by decide, by decide⟩ : Ck.isN 9) va14 vb14 5
  refine cd_mix hmix ?_
  refine mx (i := 0) rfl (by decide +kernel) (by decide +kernel) (by decide +kernel) rfl (fun w0 => ev_move rfl) rfl rfl (Sub.refl _) ?_
  refine mx (i := 2) rfl (by decide +kernel) (by decide +kernel) (by decide +kernel) rfl (fun w0 => ld_mem_all (h := 25) ty31 rfl rfl rfl rfl) rfl rfl (Sub.refl _) ?_
  refine mx_one (i := 1) (by decide +kernel) (Sub.refl _) ?_
  refine wo (i := 1) rfl ?_
  refine st_callv has24 rfl (fun w1 sw => cpub_any cb kb lv (1 :: List.replicate 31 0) (1) w1 rfl (sw.mem_lies (h := 24) rfl) (lies_blk (sw.blk_eq (h := 209) rfl)) (sw.own_rd (h := 309) rfl)) rfl rfl ?_
  refine op_nil ?_
  refine ax_then ?_
  refine mx_one (i := 3) (by decide +kernel) (Sub.refl _) ?_
  refine wo (i := 3) rfl ?_
  refine st_callv has28 rfl (fun w1 sw => check_any (Ky.keyPub (1 :: List.replicate 31 0)) bv14 mv14 (Ck.body (5) (9)) [Ck.mk (1 :: List.replicate 31 0) (0) (Ck.body (5) (9)) va14 vb14] (6) w1 (Ky.keyPub_len _) (sw.own_rd (h := 401) rfl) (by have := Ck.body_len (5) (9); omega) (Ck.body_byt _ _) (Ck.mk_ok (1 :: List.replicate 31 0) (by decide) _ _ _) (by simp) (sw.own_rd (h := 402) rfl) (fun x hx => by
      obtain rfl := List.mem_singleton.1 hx
      exact ⟨sw.own_rd (h := 403) rfl, sw.own_rd (h := 404) rfl⟩)) rfl rfl ?_
  refine op_nil ?_
  refine ax_then ?_
  refine mx (i := 4) rfl (by decide +kernel) (by decide +kernel) (by decide +kernel) rfl (fun w0 => ev_move rfl) rfl rfl (Sub.refl _) ?_
  refine mx (i := 5) rfl (by decide +kernel) (by decide +kernel) (by decide +kernel) rfl (fun w0 => ev_extract rfl rfl) rfl rfl (Sub.refl _) ?_
  refine mx (i := 6) rfl (by decide +kernel) (by decide +kernel) (by decide +kernel) rfl (fun w0 => ev_extract rfl rfl) rfl rfl (Sub.refl _) ?_
  refine mx (i := 7) rfl (by decide +kernel) (by decide +kernel) (by decide +kernel) rfl (fun w0 => ev_assign rfl) rfl rfl (Sub.refl _) ?_
  refine mx (i := 8) rfl (by decide +kernel) (by decide +kernel) (by decide +kernel) rfl (fun w0 => ev_assign rfl) rfl rfl (Sub.refl _) ?_
  refine mx_done (by decide +kernel) (Sub.refl _) ?_
  refine ax_then ?_
  refine At.regs (L' := [(0, _), (1, _), (2, _), (3, _), (5, _)]) (.cons rfl (.cons rfl (.cons rfl (.cons rfl (.cons rfl (.nil _)))))) ?_
  refine cd_seq ?_
  refine cd_mix hmix ?_
  refine mx (i := 0) rfl (by decide +kernel) (by decide +kernel) (by decide +kernel) rfl (fun w0 => ev_move rfl) rfl rfl (Sub.refl _) ?_
  refine mx (i := 2) rfl (by decide +kernel) (by decide +kernel) (by decide +kernel) rfl (fun w0 => ld_mem_all (h := 25) ty31 rfl rfl rfl rfl) rfl rfl (Sub.refl _) ?_
  refine mx_one (i := 1) (by decide +kernel) (Sub.refl _) ?_
  refine wo (i := 1) rfl ?_
  refine st_callv has24 rfl (fun w1 sw => cpub_any cb kb lv (1 :: List.replicate 31 0) (1) w1 rfl (sw.mem_lies (h := 24) rfl) (lies_blk (sw.blk_eq (h := 209) rfl)) (sw.own_rd (h := 309) rfl)) rfl rfl ?_
  refine op_nil ?_
  refine ax_then ?_
  refine mx_one (i := 3) (by decide +kernel) (Sub.refl _) ?_
  refine wo (i := 3) rfl ?_
  refine st_callv has28 rfl (fun w1 sw => check_any (Ky.keyPub (1 :: List.replicate 31 0)) bv14 mv14 (Ck.body (5) (9)) [Ck.mk (1 :: List.replicate 31 0) (0) (Ck.body (5) (9)) va14 vb14] (5) w1 (Ky.keyPub_len _) (sw.own_rd (h := 401) rfl) (by have := Ck.body_len (5) (9); omega) (Ck.body_byt _ _) (Ck.mk_ok (1 :: List.replicate 31 0) (by decide) _ _ _) (by simp) (sw.own_rd (h := 402) rfl) (fun x hx => by
      obtain rfl := List.mem_singleton.1 hx
      exact ⟨sw.own_rd (h := 403) rfl, sw.own_rd (h := 404) rfl⟩)) rfl rfl ?_
  refine op_nil ?_
  refine ax_then ?_
  refine mx (i := 4) rfl (by decide +kernel) (by decide +kernel) (by decide +kernel) rfl (fun w0 => ev_move rfl) rfl rfl (Sub.refl _) ?_
  refine mx (i := 5) rfl (by decide +kernel) (by decide +kernel) (by decide +kernel) rfl (fun w0 => ev_extract rfl rfl) rfl rfl (Sub.refl _) ?_
  refine mx (i := 6) rfl (by decide +kernel) (by decide +kernel) (by decide +kernel) rfl (fun w0 => ev_extract rfl rfl) rfl rfl (Sub.refl _) ?_
  refine mx (i := 7) rfl (by decide +kernel) (by decide +kernel) (by decide +kernel) rfl (fun w0 => ev_assign rfl) rfl rfl (Sub.refl _) ?_
  refine mx (i := 8) rfl (by decide +kernel) (by decide +kernel) (by decide +kernel) rfl (fun w0 => ev_assign rfl) rfl rfl (Sub.refl _) ?_
  refine mx_done (by decide +kernel) (Sub.refl _) ?_
  refine ax_then ?_
  refine At.regs (L' := [(0, _), (3, _), (5, _), (6, _), (7, _)]) (.cons rfl (.cons rfl (.cons rfl (.cons rfl (.cons rfl (.nil _)))))) ?_
  refine cd_seq ?_
  refine cd_region ?_
  refine st (ev_move rfl) rfl rfl rfl ?_
  refine st (ev_eql rfl rfl) rfl rfl rfl ?_
  refine st (ev_move rfl) rfl rfl rfl ?_
  refine at_eq (i := 33) (v' := .bool true) rfl (by rfl) ?_
  refine st (ev_move rfl) rfl rfl rfl ?_
  refine st (ev_eql rfl rfl) rfl rfl rfl ?_
  refine st (ev_pick_t rfl rfl) rfl rfl rfl ?_
  refine st (ev_move rfl) rfl rfl rfl ?_
  refine at_eq (i := 37) (v' := .bool true) rfl (by simp only [Value.bool.injEq, decide_eq_true_eq, decide_eq_false_iff_not]; rw [hchk6]; rfl) ?_
  refine st (ev_move rfl) rfl rfl rfl ?_
  refine st (ev_eql rfl rfl) rfl rfl rfl ?_
  refine st (ev_pick_t rfl rfl) rfl rfl rfl ?_
  refine st (ev_move rfl) rfl rfl rfl ?_
  refine at_eq (i := 41) (v' := .bool true) rfl (by simp only [Value.bool.injEq, decide_eq_true_eq, decide_eq_false_iff_not]; rw [hchk5]; rfl) ?_
  refine st (ev_move rfl) rfl rfl rfl ?_
  refine st (ev_eql rfl rfl) rfl rfl rfl ?_
  refine at_eq (i := 43) (v' := .bool true) rfl (by rw [hchk5]; rfl) ?_
  refine st (ev_pick_t rfl rfl) rfl rfl rfl ?_
  refine st (ev_assign rfl) rfl rfl rfl ?_
  refine op_nil ?_
  refine ax_then ?_
  refine At.regs (L' := [(0, _)]) (.cons rfl (.nil _)) ?_
  refine cd_ret ?_
  refine rt_tmp (.inl rfl) Try.results30 rfl ?_
  exact fun w1 sw => ⟨rfl, sw.gives (.nil _)⟩
set_option maxRecDepth 20000 in
set_option maxHeartbeats 4000000 in
theorem clockNonces_any (s : List Int) (a b t : Int) (w : World) (hl : s.length = 32) : Calls Try.prog 10 #[.agg (ints .u8 (s)).toArray, .int .i64 a, .int .i64 b, .int .i64 t] w (PostV w (.bool true)) := by
  refine calls_at (vs := [.agg (ints .u8 (s)).toArray, .int .i64 a, .int .i64 b, .int .i64 t]) (X := []) (H := []) (F := []) 85 Try.func10 rfl rfl rfl (Sat.start0 w) ?_
  refine cd_seq ?_
  refine cd_region ?_
  refine st_box (h := 4) rfl rfl rfl rfl (fun b4 => ?_)
  refine st (ev_assign rfl) rfl rfl rfl ?_
  refine op_nil ?_
  refine ax_then ?_
  refine At.regs (L' := [(1, _), (2, _), (3, _), (4, _), (8, _)]) (.cons rfl (.cons rfl (.cons rfl (.cons rfl (.cons rfl (.nil _)))))) ?_
  refine cd_seq ?_
  refine cd_seq ?_
  refine cd_region ?_
  refine st (ev_move rfl) rfl rfl rfl ?_
  refine st (ev_lss rfl rfl) rfl rfl rfl ?_
  refine st (ev_move rfl) rfl rfl rfl ?_
  refine at_split_if (i := 16) rfl (fun hg16 => ?_) (fun hg16 => ?_)
  ·
    refine st_skip rfl rfl rfl ?_
    refine st_skip rfl rfl rfl ?_
    refine st (ev_pick_t rfl rfl) rfl rfl rfl ?_
    refine st (ev_move rfl) rfl rfl rfl ?_
    refine st_skip rfl rfl rfl ?_
    refine st_skip rfl rfl rfl ?_
    refine st (ev_pick_t rfl rfl) rfl rfl rfl ?_
    refine st (ev_move rfl) rfl rfl rfl ?_
    refine st_skip rfl rfl rfl ?_
    refine st_skip rfl rfl rfl ?_
    refine st (ev_pick_t rfl rfl) rfl rfl rfl ?_
    refine st (ev_move rfl) rfl rfl rfl ?_
    refine st_skip rfl rfl rfl ?_
    refine st_skip rfl rfl rfl ?_
    refine st (ev_pick_t rfl rfl) rfl rfl rfl ?_
    refine st (ev_move rfl) rfl rfl rfl ?_
    refine st_skip rfl rfl rfl ?_
    refine st_skip rfl rfl rfl ?_
    refine st (ev_pick_t rfl rfl) rfl rfl rfl ?_
    refine op_nil ?_
    refine ax_then ?_
    refine At.regs (L' := [(1, _), (2, _), (3, _), (4, _), (8, _), (35, _)]) (.cons rfl (.cons rfl (.cons rfl (.cons rfl (.cons rfl (.cons rfl (.nil _))))))) ?_
    refine cd_true rfl ?_
    refine cd_seq ?_
    refine cd_region ?_
    refine st (ev_assign rfl) rfl rfl rfl ?_
    refine op_nil ?_
    refine ax_then ?_
    refine At.regs (L' := [(1, _), (2, _), (3, _), (4, _), (8, _)]) (.cons rfl (.cons rfl (.cons rfl (.cons rfl (.cons rfl (.nil _)))))) ?_
    refine cd_ret ?_
    refine ax_then_ret ?_
    refine rt_tmp (.inl rfl) Try.results10 rfl ?_
    exact fun w1 sw => ⟨rfl, sw.gives (.nil _)⟩
  ·
    refine st (ev_move rfl) rfl rfl rfl ?_
    refine st (ev_gtr rfl rfl) rfl rfl rfl ?_
    refine st (ev_pick_f rfl rfl) rfl rfl rfl ?_
    refine st (ev_move rfl) rfl rfl rfl ?_
    refine at_split_if (i := 20) rfl (fun hg20 => ?_) (fun hg20 => ?_)
    ·
      refine st_skip rfl rfl rfl ?_
      refine st_skip rfl rfl rfl ?_
      refine st (ev_pick_t rfl rfl) rfl rfl rfl ?_
      refine st (ev_move rfl) rfl rfl rfl ?_
      refine st_skip rfl rfl rfl ?_
      refine st_skip rfl rfl rfl ?_
      refine st (ev_pick_t rfl rfl) rfl rfl rfl ?_
      refine st (ev_move rfl) rfl rfl rfl ?_
      refine st_skip rfl rfl rfl ?_
      refine st_skip rfl rfl rfl ?_
      refine st (ev_pick_t rfl rfl) rfl rfl rfl ?_
      refine st (ev_move rfl) rfl rfl rfl ?_
      refine st_skip rfl rfl rfl ?_
      refine st_skip rfl rfl rfl ?_
      refine st (ev_pick_t rfl rfl) rfl rfl rfl ?_
      refine op_nil ?_
      refine ax_then ?_
      refine At.regs (L' := [(1, _), (2, _), (3, _), (4, _), (8, _), (35, _)]) (.cons rfl (.cons rfl (.cons rfl (.cons rfl (.cons rfl (.cons rfl (.nil _))))))) ?_
      refine cd_true rfl ?_
      refine cd_seq ?_
      refine cd_region ?_
      refine st (ev_assign rfl) rfl rfl rfl ?_
      refine op_nil ?_
      refine ax_then ?_
      refine At.regs (L' := [(1, _), (2, _), (3, _), (4, _), (8, _)]) (.cons rfl (.cons rfl (.cons rfl (.cons rfl (.cons rfl (.nil _)))))) ?_
      refine cd_ret ?_
      refine ax_then_ret ?_
      refine rt_tmp (.inl rfl) Try.results10 rfl ?_
      exact fun w1 sw => ⟨rfl, sw.gives (.nil _)⟩
    ·
      refine st (ev_move rfl) rfl rfl rfl ?_
      refine st (ev_lss rfl rfl) rfl rfl rfl ?_
      refine st (ev_pick_f rfl rfl) rfl rfl rfl ?_
      refine st (ev_move rfl) rfl rfl rfl ?_
      refine at_split_if (i := 24) rfl (fun hg24 => ?_) (fun hg24 => ?_)
      ·
        refine st_skip rfl rfl rfl ?_
        refine st_skip rfl rfl rfl ?_
        refine st (ev_pick_t rfl rfl) rfl rfl rfl ?_
        refine st (ev_move rfl) rfl rfl rfl ?_
        refine st_skip rfl rfl rfl ?_
        refine st_skip rfl rfl rfl ?_
        refine st (ev_pick_t rfl rfl) rfl rfl rfl ?_
        refine st (ev_move rfl) rfl rfl rfl ?_
        refine st_skip rfl rfl rfl ?_
        refine st_skip rfl rfl rfl ?_
        refine st (ev_pick_t rfl rfl) rfl rfl rfl ?_
        refine op_nil ?_
        refine ax_then ?_
        refine At.regs (L' := [(1, _), (2, _), (3, _), (4, _), (8, _), (35, _)]) (.cons rfl (.cons rfl (.cons rfl (.cons rfl (.cons rfl (.cons rfl (.nil _))))))) ?_
        refine cd_true rfl ?_
        refine cd_seq ?_
        refine cd_region ?_
        refine st (ev_assign rfl) rfl rfl rfl ?_
        refine op_nil ?_
        refine ax_then ?_
        refine At.regs (L' := [(1, _), (2, _), (3, _), (4, _), (8, _)]) (.cons rfl (.cons rfl (.cons rfl (.cons rfl (.cons rfl (.nil _)))))) ?_
        refine cd_ret ?_
        refine ax_then_ret ?_
        refine rt_tmp (.inl rfl) Try.results10 rfl ?_
        exact fun w1 sw => ⟨rfl, sw.gives (.nil _)⟩
      ·
        refine st (ev_move rfl) rfl rfl rfl ?_
        refine st (ev_gtr rfl rfl) rfl rfl rfl ?_
        refine st (ev_pick_f rfl rfl) rfl rfl rfl ?_
        refine st (ev_move rfl) rfl rfl rfl ?_
        refine at_split_if (i := 28) rfl (fun hg28 => ?_) (fun hg28 => ?_)
        ·
          refine st_skip rfl rfl rfl ?_
          refine st_skip rfl rfl rfl ?_
          refine st (ev_pick_t rfl rfl) rfl rfl rfl ?_
          refine st (ev_move rfl) rfl rfl rfl ?_
          refine st_skip rfl rfl rfl ?_
          refine st_skip rfl rfl rfl ?_
          refine st (ev_pick_t rfl rfl) rfl rfl rfl ?_
          refine op_nil ?_
          refine ax_then ?_
          refine At.regs (L' := [(1, _), (2, _), (3, _), (4, _), (8, _), (35, _)]) (.cons rfl (.cons rfl (.cons rfl (.cons rfl (.cons rfl (.cons rfl (.nil _))))))) ?_
          refine cd_true rfl ?_
          refine cd_seq ?_
          refine cd_region ?_
          refine st (ev_assign rfl) rfl rfl rfl ?_
          refine op_nil ?_
          refine ax_then ?_
          refine At.regs (L' := [(1, _), (2, _), (3, _), (4, _), (8, _)]) (.cons rfl (.cons rfl (.cons rfl (.cons rfl (.cons rfl (.nil _)))))) ?_
          refine cd_ret ?_
          refine ax_then_ret ?_
          refine rt_tmp (.inl rfl) Try.results10 rfl ?_
          exact fun w1 sw => ⟨rfl, sw.gives (.nil _)⟩
        ·
          refine st (ev_move rfl) rfl rfl rfl ?_
          refine st (ev_lss rfl rfl) rfl rfl rfl ?_
          refine st (ev_pick_f rfl rfl) rfl rfl rfl ?_
          refine st (ev_move rfl) rfl rfl rfl ?_
          refine at_split_if (i := 32) rfl (fun hg32 => ?_) (fun hg32 => ?_)
          ·
            refine st_skip rfl rfl rfl ?_
            refine st_skip rfl rfl rfl ?_
            refine st (ev_pick_t rfl rfl) rfl rfl rfl ?_
            refine op_nil ?_
            refine ax_then ?_
            refine At.regs (L' := [(1, _), (2, _), (3, _), (4, _), (8, _), (35, _)]) (.cons rfl (.cons rfl (.cons rfl (.cons rfl (.cons rfl (.cons rfl (.nil _))))))) ?_
            refine cd_true rfl ?_
            refine cd_seq ?_
            refine cd_region ?_
            refine st (ev_assign rfl) rfl rfl rfl ?_
            refine op_nil ?_
            refine ax_then ?_
            refine At.regs (L' := [(1, _), (2, _), (3, _), (4, _), (8, _)]) (.cons rfl (.cons rfl (.cons rfl (.cons rfl (.cons rfl (.nil _)))))) ?_
            refine cd_ret ?_
            refine ax_then_ret ?_
            refine rt_tmp (.inl rfl) Try.results10 rfl ?_
            exact fun w1 sw => ⟨rfl, sw.gives (.nil _)⟩
          ·
            refine st (ev_move rfl) rfl rfl rfl ?_
            refine st (ev_gtr rfl rfl) rfl rfl rfl ?_
            refine st (ev_pick_f rfl rfl) rfl rfl rfl ?_
            refine op_nil ?_
            refine ax_then ?_
            refine At.regs (L' := [(1, _), (2, _), (3, _), (4, _), (8, _), (35, _)]) (.cons rfl (.cons rfl (.cons rfl (.cons rfl (.cons rfl (.cons rfl (.nil _))))))) ?_
            refine cd_if rfl (fun hc35 => ?_) (fun hc35 => ?_)
            ·
              refine cd_seq ?_
              refine cd_region ?_
              refine st (ev_assign rfl) rfl rfl rfl ?_
              refine op_nil ?_
              refine ax_then ?_
              refine At.regs (L' := [(1, _), (2, _), (3, _), (4, _), (8, _)]) (.cons rfl (.cons rfl (.cons rfl (.cons rfl (.cons rfl (.nil _)))))) ?_
              refine cd_ret ?_
              refine ax_then_ret ?_
              refine rt_tmp (.inl rfl) Try.results10 rfl ?_
              exact fun w1 sw => ⟨rfl, sw.gives (.nil _)⟩
            ·
              refine cd_skip ?_
              refine ax_then ?_
              refine At.regs (L' := [(1, _), (2, _), (3, _), (4, _), (8, _)]) (.cons rfl (.cons rfl (.cons rfl (.cons rfl (.cons rfl (.nil _)))))) ?_
              refine cd_seq ?_
              refine cd_region ?_
              refine st (ld_blk_all (h := 4) ty55 rfl rfl rfl (by first | omega | (simp only [List.length_append, List.length_cons, List.length_nil, List.length_set, List.length_replicate, List.length_take, List.length_drop, ints_length, wr_length, sha_len, node_len, recov_len, Ky.named_len, Ky.keyPub_len, Ky.hashOf_len] <;> omega) | rfl)) rfl rfl rfl ?_
              have ha : Ck.isN a := ⟨by omega, by omega⟩
              have ht : Ck.isN t := ⟨by omega, by omega⟩
              refine st_call has22 rfl (fun w1 sw => rn3 37 237 337 (cnew_any s w1 hl)) nil_all rfl rfl (fun x37 _ => ?_)
              obtain ⟨cb, kb, lv⟩ := x37
              dsimp only
              refine at_freeze_blk (h := 37) (H' := [(4, _), (237, _), (337, _)]) 24 rfl (.cons rfl (.cons rfl (.cons rfl (.nil _)))) rfl ?_
              refine st (ev_assign rfl) rfl rfl rfl ?_
              refine op_nil ?_
              refine ax_then ?_
              refine At.regs (L' := [(1, _), (2, _), (3, _), (8, _), (9, _)]) (.cons rfl (.cons rfl (.cons rfl (.cons rfl (.cons rfl (.nil _)))))) ?_
              refine cd_seq ?_
              refine cd_seq ?_
              refine cd_region ?_
              refine st (ev_move rfl) rfl rfl rfl ?_
              refine st (ev_eql_ptr_nil Try.underlying56 rfl rfl) rfl rfl rfl ?_
              refine op_nil ?_
              refine ax_then ?_
              refine At.regs (L' := [(1, _), (2, _), (3, _), (8, _), (9, _), (39, _)]) (.cons rfl (.cons rfl (.cons rfl (.cons rfl (.cons rfl (.cons rfl (.nil _))))))) ?_
              refine cd_false rfl ?_
              refine cd_skip ?_
              refine ax_then ?_
              refine At.regs (L' := [(1, _), (2, _), (3, _), (8, _), (9, _)]) (.cons rfl (.cons rfl (.cons rfl (.cons rfl (.cons rfl (.nil _)))))) ?_
              refine cd_seq ?_
              refine cd_region ?_
              refine st (ev_move rfl) rfl rfl rfl ?_
              refine st (ev_move rfl) rfl rfl rfl ?_
              refine st (ev_move rfl) rfl rfl rfl ?_
              refine st_call has25 rfl (fun w1 sw => rn5 237 401 402 403 404 (attest_any cb kb lv s 0 (a) (t) w1 hl ha ht (by decide) (sw.blk_eq (h := 237) rfl) (sw.own_rd (h := 337) rfl) (sw.own_off (h := 237) (h' := 337) rfl rfl (by decide)) (sw.mem_lies (h := 24) rfl) (sw.off 24 _ 237 _ rfl rfl _ (by simp [Ent.ids])))) (mod_blk5 rfl) rfl rfl (fun x44 _ => ?_)
              obtain ⟨bv44, mv44, va44, vb44⟩ := x44
              dsimp only
              refine at_own_shape (h := 401) rfl (fun hsb44 => ?_)
              refine at_own_shape (h := 402) rfl (fun hsm44 => ?_)
              refine st (ev_move rfl) rfl rfl rfl ?_
              refine st (ev_extract rfl rfl) rfl rfl rfl ?_
              refine st (ev_extract rfl rfl) rfl rfl rfl ?_
              refine st_alloc (h := 10) ty31 rfl rfl rfl (fun b10 => ?_)
              refine st_store_all 10 ty31 rfl rfl rfl rfl rfl (by intro u hu; simp at hu; rcases hu with rfl | rfl; exact hsb44.2; exact hsm44.2) rfl rfl ?_
              refine st (ev_assign rfl) rfl rfl rfl ?_
              refine op_nil ?_
              refine ax_then ?_
              refine At.regs (L' := [(1, _), (2, _), (3, _), (8, _), (9, _), (10, _), (11, _)]) (.cons rfl (.cons rfl (.cons rfl (.cons rfl (.cons rfl (.cons rfl (.cons rfl (.nil _)))))))) ?_
              refine cd_seq ?_
              refine at_freeze_blk (h := 10) (H' := [(4, _), (237, _), (337, _), (401, _), (402, _), (403, _), (404, _)]) 25 rfl (.cons rfl (.cons rfl (.cons rfl (.cons rfl (.cons rfl (.cons rfl (.cons rfl (.nil _)))))))) rfl ?_
              have hchk := Ck.chk_own s (n := 0) (by decide) ha ht va44 vb44 b
              refine cd_mix hmix ?_
              refine mx (i := 0) rfl (by decide +kernel) (by decide +kernel) (by decide +kernel) rfl (fun w0 => ev_move rfl) rfl rfl (Sub.refl _) ?_
              refine mx (i := 2) rfl (by decide +kernel) (by decide +kernel) (by decide +kernel) rfl (fun w0 => ld_mem_all (h := 25) ty31 rfl rfl rfl rfl) rfl rfl (Sub.refl _) ?_
              refine mx (i := 3) rfl (by decide +kernel) (by decide +kernel) (by decide +kernel) rfl (fun w0 => ev_move rfl) rfl rfl (Sub.refl _) ?_
              refine mx_one (i := 1) (by decide +kernel) (Sub.refl _) ?_
              refine wo (i := 1) rfl ?_
              refine st_callv has24 rfl (fun w1 sw => cpub_any cb kb lv s (1) w1 hl (sw.mem_lies (h := 24) rfl) (lies_blk (sw.blk_eq (h := 237) rfl)) (sw.own_rd (h := 337) rfl)) rfl rfl ?_
              refine op_nil ?_
              refine ax_then ?_
              refine mx_one (i := 4) (by decide +kernel) (Sub.refl _) ?_
              refine wo (i := 4) rfl ?_
              refine st_callv has28 rfl (fun w1 sw => check_any (Ky.keyPub s) bv44 mv44 (Ck.body (a) (t)) [Ck.mk s (0) (Ck.body (a) (t)) va44 vb44] (b) w1 (Ky.keyPub_len _) (sw.own_rd (h := 401) rfl) (by have := Ck.body_len (a) (t); omega) (Ck.body_byt _ _) (Ck.mk_ok s (by decide) _ _ _) (by simp) (sw.own_rd (h := 402) rfl) (fun x hx => by
                  obtain rfl := List.mem_singleton.1 hx
                  exact ⟨sw.own_rd (h := 403) rfl, sw.own_rd (h := 404) rfl⟩)) rfl rfl ?_
              refine op_nil ?_
              refine ax_then ?_
              refine mx (i := 5) rfl (by decide +kernel) (by decide +kernel) (by decide +kernel) rfl (fun w0 => ev_move rfl) rfl rfl (Sub.refl _) ?_
              refine mx (i := 6) rfl (by decide +kernel) (by decide +kernel) (by decide +kernel) rfl (fun w0 => ev_extract rfl rfl) rfl rfl (Sub.refl _) ?_
              refine mx (i := 7) rfl (by decide +kernel) (by decide +kernel) (by decide +kernel) rfl (fun w0 => ev_extract rfl rfl) rfl rfl (Sub.refl _) ?_
              refine mx (i := 8) rfl (by decide +kernel) (by decide +kernel) (by decide +kernel) rfl (fun w0 => ev_assign rfl) rfl rfl (Sub.refl _) ?_
              refine mx (i := 9) rfl (by decide +kernel) (by decide +kernel) (by decide +kernel) rfl (fun w0 => ev_assign rfl) rfl rfl (Sub.refl _) ?_
              refine mx_done (by decide +kernel) (Sub.refl _) ?_
              refine ax_then ?_
              refine At.regs (L' := [(1, _), (2, _), (3, _), (8, _), (11, _), (12, _), (13, _)]) (.cons rfl (.cons rfl (.cons rfl (.cons rfl (.cons rfl (.cons rfl (.cons rfl (.nil _)))))))) ?_
              refine cd_seq ?_
              refine cd_seq ?_
              refine cd_region ?_
              refine st (ev_move rfl) rfl rfl rfl ?_
              refine st (ev_move rfl) rfl rfl rfl ?_
              refine st (ev_neq rfl rfl) rfl rfl rfl ?_
              refine op_nil ?_
              refine ax_then ?_
              refine At.regs (L' := [(3, _), (8, _), (11, _), (12, _), (13, _), (57, _)]) (.cons rfl (.cons rfl (.cons rfl (.cons rfl (.cons rfl (.cons rfl (.nil _))))))) ?_
              refine cd_if rfl (fun hc57 => ?_) (fun hc57 => ?_)
              ·
                refine cd_seq ?_
                refine cd_region ?_
                refine st (ev_move rfl) rfl rfl rfl ?_
                refine st (ev_eql rfl rfl) rfl rfl rfl ?_
                refine st (ev_move rfl) rfl rfl rfl ?_
                refine at_eq (i := 60) (v' := .bool true) rfl (by rfl) ?_
                refine st (ev_move rfl) rfl rfl rfl ?_
                refine st (ev_eql rfl rfl) rfl rfl rfl ?_
                refine st (ev_pick_t rfl rfl) rfl rfl rfl ?_
                refine st (ev_move rfl) rfl rfl rfl ?_
                refine at_eq (i := 64) (v' := .bool true) rfl (by simp only [Value.bool.injEq, decide_eq_true_eq, decide_eq_false_iff_not]; rw [hchk, if_neg hc57]) ?_
                refine st (ev_move rfl) rfl rfl rfl ?_
                refine st (ev_eql rfl rfl) rfl rfl rfl ?_
                refine st (ev_pick_t rfl rfl) rfl rfl rfl ?_
                refine st (ev_move rfl) rfl rfl rfl ?_
                refine at_eq (i := 68) (v' := .bool true) rfl (by simp only [Value.bool.injEq, decide_eq_true_eq, decide_eq_false_iff_not]; rw [hchk, if_neg hc57]) ?_
                refine st_callv has30 rfl (fun w1 sw => known18_any w1) rfl rfl ?_
                refine st (ev_pick_t rfl rfl) rfl rfl rfl ?_
                refine st (ev_assign rfl) rfl rfl rfl ?_
                refine op_nil ?_
                refine ax_then ?_
                refine At.regs (L' := [(3, _), (8, _), (11, _), (12, _), (13, _)]) (.cons rfl (.cons rfl (.cons rfl (.cons rfl (.cons rfl (.nil _)))))) ?_
                refine cd_ret ?_
                refine ax_then_ret ?_
                refine rt_tmp (.inl rfl) Try.results10 rfl ?_
                exact fun w1 sw => ⟨rfl, sw.gives (.nil _)⟩
              ·
                refine cd_skip ?_
                refine ax_then ?_
                refine At.regs (L' := [(3, _), (8, _), (11, _), (12, _), (13, _)]) (.cons rfl (.cons rfl (.cons rfl (.cons rfl (.cons rfl (.nil _)))))) ?_
                refine cd_seq ?_
                refine cd_region ?_
                refine st (ev_move rfl) rfl rfl rfl ?_
                refine st (ev_eql rfl rfl) rfl rfl rfl ?_
                refine st (ev_move rfl) rfl rfl rfl ?_
                refine at_eq (i := 73) (v' := .bool true) rfl (by rfl) ?_
                refine st (ev_move rfl) rfl rfl rfl ?_
                refine st (ev_eql rfl rfl) rfl rfl rfl ?_
                refine st (ev_pick_t rfl rfl) rfl rfl rfl ?_
                refine st (ev_move rfl) rfl rfl rfl ?_
                refine at_eq (i := 77) (v' := .bool true) rfl (by simp only [Value.bool.injEq, decide_eq_true_eq, decide_eq_false_iff_not]; rw [hchk, if_pos (Classical.not_not.1 hc57)]) ?_
                refine st (ev_move rfl) rfl rfl rfl ?_
                refine st (ev_move rfl) rfl rfl rfl ?_
                refine st (ev_eql rfl rfl) rfl rfl rfl ?_
                refine st (ev_pick_t rfl rfl) rfl rfl rfl ?_
                refine st (ev_move rfl) rfl rfl rfl ?_
                refine at_eq (i := 82) (v' := .bool true) rfl (by simp only [Value.bool.injEq, decide_eq_true_eq, decide_eq_false_iff_not]; rw [hchk, if_pos (Classical.not_not.1 hc57)]) ?_
                refine st_callv has30 rfl (fun w1 sw => known18_any w1) rfl rfl ?_
                refine st (ev_pick_t rfl rfl) rfl rfl rfl ?_
                refine st (ev_assign rfl) rfl rfl rfl ?_
                refine op_nil ?_
                refine ax_then ?_
                refine At.regs (L' := [(8, _)]) (.cons rfl (.nil _)) ?_
                refine cd_ret ?_
                refine rt_tmp (.inl rfl) Try.results10 rfl ?_
                exact fun w1 sw => ⟨rfl, sw.gives (.nil _)⟩
set_option maxRecDepth 20000 in
set_option maxHeartbeats 8000000 in
theorem clockBounds_ok (a t : Int) (w : World) (ha : Ck.isN a) (ht : Ck.isN t) : Calls Try.prog 11 #[.int .i64 a, .int .i64 t] w (PostV w (.bool true)) := by
  have ha1 := ha.1
  have ha2 := ha.2
  have ht1 := ht.1
  have ht2 := ht.2
  refine calls_at (vs := [.int .i64 a, .int .i64 t]) (X := []) (H := []) (F := []) 77 Try.func11 rfl rfl rfl (Sat.start0 w) ?_
  refine cd_seq ?_
  refine cd_region ?_
  refine st (ev_assign rfl) rfl rfl rfl ?_
  refine op_nil ?_
  refine ax_then ?_
  refine At.regs (L' := [(0, _), (1, _), (4, _)]) (.cons rfl (.cons rfl (.cons rfl (.nil _)))) ?_
  refine cd_seq ?_
  refine cd_region ?_
  refine st (ev_build_array ty55 rfl ty5 rfl rfl) rfl rfl rfl ?_
  refine at_eq (i := 12) (v' := .agg (ints .u8 ((4 :: List.replicate 31 0))).toArray) rfl (by kernel_rfl) ?_
  refine st_call has22 rfl (fun w1 sw => rn3 13 213 313 (cnew_any (4 :: List.replicate 31 0) w1 rfl)) nil_all rfl rfl (fun x13 _ => ?_)
  obtain ⟨cb, kb, lv⟩ := x13
  dsimp only
  refine at_freeze_blk (h := 13) (H' := [(213, _), (313, _)]) 24 rfl (.cons rfl (.cons rfl (.nil _))) rfl ?_
  refine st (ev_assign rfl) rfl rfl rfl ?_
  refine op_nil ?_
  refine ax_then ?_
  refine At.regs (L' := [(0, _), (1, _), (4, _), (5, _)]) (.cons rfl (.cons rfl (.cons rfl (.cons rfl (.nil _))))) ?_
  refine cd_seq ?_
  refine cd_seq ?_
  refine cd_region ?_
  refine st (ev_move rfl) rfl rfl rfl ?_
  refine st (ev_eql_ptr_nil Try.underlying56 rfl rfl) rfl rfl rfl ?_
  refine op_nil ?_
  refine ax_then ?_
  refine At.regs (L' := [(0, _), (1, _), (4, _), (5, _), (15, _)]) (.cons rfl (.cons rfl (.cons rfl (.cons rfl (.cons rfl (.nil _)))))) ?_
  refine cd_false rfl ?_
  refine cd_skip ?_
  refine ax_then ?_
  refine At.regs (L' := [(0, _), (1, _), (4, _), (5, _)]) (.cons rfl (.cons rfl (.cons rfl (.cons rfl (.nil _))))) ?_
  refine cd_join (ι := Unit) (fun _ => True) (fun _ => [(0, .int .i64 a), (1, .int .i64 t), (5, .pointer (some ⟨cb, 0, none⟩)), (6, .bool true)]) (fun _ => [(213, .blk (kb) (.cells (Ky.cells (4 :: List.replicate 31 0) lv ((0 : Nat) : Int)).toArray 133)), (313, .own (lv) 55 32 (flat (Ky.leaves (4 :: List.replicate 31 0) 16)))]) (fun _ => [(24, .mem cb 0 [.pointer (some ⟨kb, 0, none⟩)])]) ?_ (fun _ hj => ?_)
  ·
    refine cd_region ?_
    refine st (ev_move rfl) rfl rfl rfl ?_
    refine st (ev_geq rfl rfl) rfl rfl rfl ?_
    refine st (ev_move rfl) rfl rfl rfl ?_
    refine at_eq (i := 18) (v' := .bool true) rfl (by simp only [Value.bool.injEq, decide_eq_true_eq, decide_eq_false_iff_not]; exact ha1) ?_
    refine st (ev_move rfl) rfl rfl rfl ?_
    refine st (ev_leq rfl rfl) rfl rfl rfl ?_
    refine st (ev_pick_t rfl rfl) rfl rfl rfl ?_
    refine st (ev_move rfl) rfl rfl rfl ?_
    refine at_eq (i := 22) (v' := .bool true) rfl (by simp only [Value.bool.injEq, decide_eq_true_eq, decide_eq_false_iff_not]; exact ha2) ?_
    refine st (ev_move rfl) rfl rfl rfl ?_
    refine st (ev_geq rfl rfl) rfl rfl rfl ?_
    refine st (ev_pick_t rfl rfl) rfl rfl rfl ?_
    refine st (ev_move rfl) rfl rfl rfl ?_
    refine at_eq (i := 26) (v' := .bool true) rfl (by simp only [Value.bool.injEq, decide_eq_true_eq, decide_eq_false_iff_not]; exact ht1) ?_
    refine st (ev_move rfl) rfl rfl rfl ?_
    refine st (ev_leq rfl rfl) rfl rfl rfl ?_
    refine st (ev_pick_t rfl rfl) rfl rfl rfl ?_
    refine st (ev_assign rfl) rfl rfl rfl ?_
    refine op_nil ?_
    refine ax_eq (i := 6) (v' := .bool true) rfl (by first | rfl | (rw [decide_eq_true (by omega)])) ?_
    exact at_met (()) (trivial) (.cons rfl (.cons rfl (.cons rfl (.cons rfl (.nil _))))) (.cons rfl (.cons rfl (.nil _))) (.cons rfl (.nil _))
  ·
    refine cd_seq ?_
    refine cd_region ?_
    refine st (ev_move rfl) rfl rfl rfl ?_
    refine st (ev_move rfl) rfl rfl rfl ?_
    refine st (ev_move rfl) rfl rfl rfl ?_
    refine st_call has25 rfl (fun w1 sw => rn5 213 401 402 403 404 (attest_any cb kb lv (4 :: List.replicate 31 0) 0 (a) (t) w1 rfl ha ht (by decide) (sw.blk_eq (h := 213) rfl) (sw.own_rd (h := 313) rfl) (sw.own_off (h := 213) (h' := 313) rfl rfl (by decide)) (sw.mem_lies (h := 24) rfl) (sw.off 24 _ 213 _ rfl rfl _ (by simp [Ent.ids])))) (mod_blk5 rfl) rfl rfl (fun x34 _ => ?_)
    obtain ⟨bv34, mv34, va34, vb34⟩ := x34
    dsimp only
    refine at_own_shape (h := 401) rfl (fun hsb34 => ?_)
    refine at_own_shape (h := 402) rfl (fun hsm34 => ?_)
    refine st (ev_move rfl) rfl rfl rfl ?_
    refine st (ev_extract rfl rfl) rfl rfl rfl ?_
    refine st (ev_extract rfl rfl) rfl rfl rfl ?_
    refine st_alloc (h := 7) ty31 rfl rfl rfl (fun b7 => ?_)
    refine st_store_all 7 ty31 rfl rfl rfl rfl rfl (by intro u hu; simp at hu; rcases hu with rfl | rfl; exact hsb34.2; exact hsm34.2) rfl rfl ?_
    refine st (ev_assign rfl) rfl rfl rfl ?_
    refine op_nil ?_
    refine ax_then ?_
    refine At.regs (L' := [(5, _), (6, _), (8, _)]) (.cons rfl (.cons rfl (.cons rfl (.nil _)))) ?_
    refine cd_seq ?_
    refine cd_region ?_
    refine st (ev_move rfl) rfl rfl rfl ?_
    refine st_call has25 rfl (fun w1 sw => rn5 213 411 412 413 414 (attest_any cb kb lv (4 :: List.replicate 31 0) 1 (1) (1) w1 rfl (⟨by decide, by decide⟩ : Ck.isN 1) (⟨by decide, by decide⟩ : Ck.isN 1) (by decide) (sw.blk_eq (h := 213) rfl) (sw.own_rd (h := 313) rfl) (sw.own_off (h := 213) (h' := 313) rfl rfl (by decide)) (sw.mem_lies (h := 24) rfl) (sw.off 24 _ 213 _ rfl rfl _ (by simp [Ent.ids])))) (mod_blk5 rfl) rfl rfl (fun x39 _ => ?_)
    obtain ⟨bv39, mv39, va39, vb39⟩ := x39
    dsimp only
    refine at_own_shape (h := 411) rfl (fun hsb39 => ?_)
    refine at_own_shape (h := 412) rfl (fun hsm39 => ?_)
    have hmf : (Qm.mflat [Ck.mk (4 :: List.replicate 31 0) (1) (Ck.body 1 1) va39 vb39]).length = 1 * 35 := by simp [Qm.mflat, Qm.mcells, Ck.mk, ints_length, Ky.keyPub_len]
    have hml : (Qm.mflat [Ck.mk (4 :: List.replicate 31 0) (1) (Ck.body 1 1) va39 vb39])[(0 : Int).toNat * 35 + 32 + 0]? = some (.int .i64 ((1 : Nat) : Int)) := by
      have e : (0 : Int).toNat * 35 + 32 + 0 = 32 := rfl
      rw [e]
      simp [Qm.mflat, Qm.mcells, Ck.mk, ints_length, Ky.keyPub_len, List.getElem?_append_right]
    refine st (ev_move rfl) rfl rfl rfl ?_
    refine st (ev_extract rfl rfl) rfl rfl rfl ?_
    refine st (ev_extract rfl rfl) rfl rfl rfl ?_
    refine st_alloc (h := 9) ty31 rfl rfl rfl (fun b9 => ?_)
    refine st_store_all 9 ty31 rfl rfl rfl rfl rfl (by intro u hu; simp at hu; rcases hu with rfl | rfl; exact hsb39.2; exact hsm39.2) rfl rfl ?_
    refine st (ev_assign rfl) rfl rfl rfl ?_
    refine op_nil ?_
    refine ax_then ?_
    refine At.regs (L' := [(6, _), (8, _), (9, _), (10, _)]) (.cons rfl (.cons rfl (.cons rfl (.cons rfl (.nil _))))) ?_
    refine cd_seq ?_
    refine cd_region ?_
    refine st (ev_assign rfl) rfl rfl rfl ?_
    refine op_nil ?_
    refine ax_then ?_
    refine At.regs (L' := [(6, _), (8, _), (9, _), (10, _), (11, _)]) (.cons rfl (.cons rfl (.cons rfl (.cons rfl (.cons rfl (.nil _)))))) ?_
    refine cd_seq ?_
    refine cd_seq ?_
    refine cd_region ?_
    refine st (ev_move rfl) rfl rfl rfl ?_
    refine op_nil ?_
    refine ax_then ?_
    refine At.regs (L' := [(6, _), (8, _), (9, _), (10, _), (11, _), (42, _)]) (.cons rfl (.cons rfl (.cons rfl (.cons rfl (.cons rfl (.cons rfl (.nil _))))))) ?_
    refine cd_true rfl ?_
    refine cd_region ?_
    refine st (ev_assign rfl) rfl rfl rfl ?_
    refine op_nil ?_
    refine ax_then ?_
    refine At.regs (L' := [(6, _), (8, _), (9, _), (10, _), (11, _)]) (.cons rfl (.cons rfl (.cons rfl (.cons rfl (.cons rfl (.nil _)))))) ?_
    refine cd_seq ?_
    refine cd_region ?_
    refine st (ev_move rfl) rfl rfl rfl ?_
    refine st (ev_eql rfl rfl) rfl rfl rfl ?_
    refine st (ev_move rfl) rfl rfl rfl ?_
    refine st (ev_eql_bool Try.underlying4 rfl rfl) rfl rfl rfl ?_
    refine st (ev_move rfl) rfl rfl rfl ?_
    refine at_eq (i := 47) (v' := .bool true) rfl (by rfl) ?_
    refine st (ev_move rfl) rfl rfl rfl ?_
    refine st (ev_move rfl) rfl rfl rfl ?_
    refine st_skip rfl rfl rfl ?_
    refine st_skip rfl rfl rfl ?_
    refine st (ev_pick_t rfl rfl) rfl rfl rfl ?_
    refine st (ev_pick_t rfl rfl) rfl rfl rfl ?_
    refine st (ev_move rfl) rfl rfl rfl ?_
    refine st (ev_move rfl) rfl rfl rfl ?_
    refine st (ev_eql rfl rfl) rfl rfl rfl ?_
    refine st (ev_pick_t rfl rfl) rfl rfl rfl ?_
    refine st (ev_move rfl) rfl rfl rfl ?_
    refine at_eq (i := 58) (v' := .bool true) rfl (by rfl) ?_
    refine st (ev_fieldAddr (b := _) Try.underlying31 (f := _) rfl ty29 (by decide) rfl) rfl rfl rfl ?_
    refine st (ld_blk1 (h := 9) ty29 rfl rfl rfl rfl) rfl rfl rfl ?_
    refine st (ev_len_own (h := 412) (n := 1) Try.underlying29 rfl rfl hmf (by decide)) rfl rfl rfl ?_
    refine st (ev_eql rfl rfl) rfl rfl rfl ?_
    refine st (ev_pick_t rfl rfl) rfl rfl rfl ?_
    refine st (ev_move rfl) rfl rfl rfl ?_
    refine at_eq (i := 64) (v' := .bool true) rfl (by rfl) ?_
    refine st (ev_fieldAddr (b := _) Try.underlying31 (f := _) rfl ty29 (by decide) rfl) rfl rfl rfl ?_
    refine st (ld_blk1 (h := 9) ty29 rfl rfl rfl rfl) rfl rfl rfl ?_
    refine st (ev_indexAddr_own (h := 412) (n := 1) Try.underlying29 ty82 rfl rfl rfl hmf (by decide) (by decide) (by decide)) rfl rfl rfl ?_
    refine st (ev_fieldIn (n := 32) (k := (0 : Int).toNat * 35) Try.underlying82 rfl rfl rfl (fun w1 sw => sw.own_rd (h := 412) rfl) (by rw [hmf]; decide) (fun b off hx => ev_fieldAddr (b := _) Try.underlying82 (f := _) rfl ty80 (by decide) hx)) rfl rfl rfl ?_
    refine st (ev_fieldIn (n := 0) (k := (0 : Int).toNat * 35 + 32) Try.underlying80 rfl rfl rfl (fun w1 sw => sw.own_rd (h := 412) rfl) (by rw [hmf]; decide) (fun b off hx => ev_fieldAddr (b := _) Try.underlying80 (f := _) rfl ty3 (by decide) hx)) rfl rfl rfl ?_
    refine st (ld_own1 (h := 412) ty3 rfl rfl rfl hml) rfl rfl rfl ?_
    refine st (ev_move rfl) rfl rfl rfl ?_
    refine st (ev_eql rfl rfl) rfl rfl rfl ?_
    refine st (ev_pick_t rfl rfl) rfl rfl rfl ?_
    refine st (ev_move rfl) rfl rfl rfl ?_
    refine at_eq (i := 74) (v' := .bool true) rfl (by rfl) ?_
    refine st_callv has30 rfl (fun w1 sw => known18_any w1) rfl rfl ?_
    refine st (ev_pick_t rfl rfl) rfl rfl rfl ?_
    refine st (ev_assign rfl) rfl rfl rfl ?_
    refine op_nil ?_
    refine ax_then ?_
    refine At.regs (L' := [(4, _)]) (.cons rfl (.nil _)) ?_
    refine cd_ret ?_
    refine rt_tmp (.inl rfl) Try.results11 rfl ?_
    exact fun w1 sw => ⟨rfl, sw.gives (.nil _)⟩
set_option maxRecDepth 20000 in
set_option maxHeartbeats 8000000 in
theorem clockBounds_no (a t : Int) (w : World) (hn : ¬ (Ck.isN a ∧ Ck.isN t)) : Calls Try.prog 11 #[.int .i64 a, .int .i64 t] w (PostV w (.bool true)) := by
  obtain hn1 : ¬ (0 ≤ a ∧ a ≤ 1073741824 ∧ 0 ≤ t ∧ t ≤ 1073741824) := fun h => hn ⟨⟨h.1, h.2.1⟩, h.2.2⟩
  refine calls_at (vs := [.int .i64 a, .int .i64 t]) (X := []) (H := []) (F := []) 77 Try.func11 rfl rfl rfl (Sat.start0 w) ?_
  refine cd_seq ?_
  refine cd_region ?_
  refine st (ev_assign rfl) rfl rfl rfl ?_
  refine op_nil ?_
  refine ax_then ?_
  refine At.regs (L' := [(0, _), (1, _), (4, _)]) (.cons rfl (.cons rfl (.cons rfl (.nil _)))) ?_
  refine cd_seq ?_
  refine cd_region ?_
  refine st (ev_build_array ty55 rfl ty5 rfl rfl) rfl rfl rfl ?_
  refine at_eq (i := 12) (v' := .agg (ints .u8 ((4 :: List.replicate 31 0))).toArray) rfl (by kernel_rfl) ?_
  refine st_call has22 rfl (fun w1 sw => rn3 13 213 313 (cnew_any (4 :: List.replicate 31 0) w1 rfl)) nil_all rfl rfl (fun x13 _ => ?_)
  obtain ⟨cb, kb, lv⟩ := x13
  dsimp only
  refine at_freeze_blk (h := 13) (H' := [(213, _), (313, _)]) 24 rfl (.cons rfl (.cons rfl (.nil _))) rfl ?_
  refine st (ev_assign rfl) rfl rfl rfl ?_
  refine op_nil ?_
  refine ax_then ?_
  refine At.regs (L' := [(0, _), (1, _), (4, _), (5, _)]) (.cons rfl (.cons rfl (.cons rfl (.cons rfl (.nil _))))) ?_
  refine cd_seq ?_
  refine cd_seq ?_
  refine cd_region ?_
  refine st (ev_move rfl) rfl rfl rfl ?_
  refine st (ev_eql_ptr_nil Try.underlying56 rfl rfl) rfl rfl rfl ?_
  refine op_nil ?_
  refine ax_then ?_
  refine At.regs (L' := [(0, _), (1, _), (4, _), (5, _), (15, _)]) (.cons rfl (.cons rfl (.cons rfl (.cons rfl (.cons rfl (.nil _)))))) ?_
  refine cd_false rfl ?_
  refine cd_skip ?_
  refine ax_then ?_
  refine At.regs (L' := [(0, _), (1, _), (4, _), (5, _)]) (.cons rfl (.cons rfl (.cons rfl (.cons rfl (.nil _))))) ?_
  refine cd_join (ι := Unit) (fun _ => True) (fun _ => [(0, .int .i64 a), (1, .int .i64 t), (5, .pointer (some ⟨cb, 0, none⟩)), (6, .bool false)]) (fun _ => [(213, .blk (kb) (.cells (Ky.cells (4 :: List.replicate 31 0) lv ((0 : Nat) : Int)).toArray 133)), (313, .own (lv) 55 32 (flat (Ky.leaves (4 :: List.replicate 31 0) 16)))]) (fun _ => [(24, .mem cb 0 [.pointer (some ⟨kb, 0, none⟩)])]) ?_ (fun _ hj => ?_)
  ·
    refine cd_region ?_
    refine st (ev_move rfl) rfl rfl rfl ?_
    refine st (ev_geq rfl rfl) rfl rfl rfl ?_
    refine st (ev_move rfl) rfl rfl rfl ?_
    refine at_split_if (i := 18) rfl (fun hg18 => ?_) (fun hg18 => ?_)
    ·
      refine st (ev_move rfl) rfl rfl rfl ?_
      refine st (ev_leq rfl rfl) rfl rfl rfl ?_
      refine st (ev_pick_t rfl rfl) rfl rfl rfl ?_
      refine st (ev_move rfl) rfl rfl rfl ?_
      refine at_split_if (i := 22) rfl (fun hg22 => ?_) (fun hg22 => ?_)
      ·
        refine st (ev_move rfl) rfl rfl rfl ?_
        refine st (ev_geq rfl rfl) rfl rfl rfl ?_
        refine st (ev_pick_t rfl rfl) rfl rfl rfl ?_
        refine st (ev_move rfl) rfl rfl rfl ?_
        refine at_split_if (i := 26) rfl (fun hg26 => ?_) (fun hg26 => ?_)
        ·
          refine st (ev_move rfl) rfl rfl rfl ?_
          refine st (ev_leq rfl rfl) rfl rfl rfl ?_
          refine st (ev_pick_t rfl rfl) rfl rfl rfl ?_
          refine st (ev_assign rfl) rfl rfl rfl ?_
          refine op_nil ?_
          refine ax_eq (i := 6) (v' := .bool false) rfl (by first | rfl | (rw [decide_eq_false (by omega)])) ?_
          exact at_met (()) (trivial) (.cons rfl (.cons rfl (.cons rfl (.cons rfl (.nil _))))) (.cons rfl (.cons rfl (.nil _))) (.cons rfl (.nil _))
        ·
          refine st_skip rfl rfl rfl ?_
          refine st_skip rfl rfl rfl ?_
          refine st (ev_pick_f rfl rfl) rfl rfl rfl ?_
          refine st (ev_assign rfl) rfl rfl rfl ?_
          refine op_nil ?_
          refine ax_eq (i := 6) (v' := .bool false) rfl (by first | rfl | (rw [decide_eq_false (by omega)])) ?_
          exact at_met (()) (trivial) (.cons rfl (.cons rfl (.cons rfl (.cons rfl (.nil _))))) (.cons rfl (.cons rfl (.nil _))) (.cons rfl (.nil _))
      ·
        refine st_skip rfl rfl rfl ?_
        refine st_skip rfl rfl rfl ?_
        refine st (ev_pick_f rfl rfl) rfl rfl rfl ?_
        refine st (ev_move rfl) rfl rfl rfl ?_
        refine st_skip rfl rfl rfl ?_
        refine st_skip rfl rfl rfl ?_
        refine st (ev_pick_f rfl rfl) rfl rfl rfl ?_
        refine st (ev_assign rfl) rfl rfl rfl ?_
        refine op_nil ?_
        refine ax_eq (i := 6) (v' := .bool false) rfl (by first | rfl | (rw [decide_eq_false (by omega)])) ?_
        exact at_met (()) (trivial) (.cons rfl (.cons rfl (.cons rfl (.cons rfl (.nil _))))) (.cons rfl (.cons rfl (.nil _))) (.cons rfl (.nil _))
    ·
      refine st_skip rfl rfl rfl ?_
      refine st_skip rfl rfl rfl ?_
      refine st (ev_pick_f rfl rfl) rfl rfl rfl ?_
      refine st (ev_move rfl) rfl rfl rfl ?_
      refine st_skip rfl rfl rfl ?_
      refine st_skip rfl rfl rfl ?_
      refine st (ev_pick_f rfl rfl) rfl rfl rfl ?_
      refine st (ev_move rfl) rfl rfl rfl ?_
      refine st_skip rfl rfl rfl ?_
      refine st_skip rfl rfl rfl ?_
      refine st (ev_pick_f rfl rfl) rfl rfl rfl ?_
      refine st (ev_assign rfl) rfl rfl rfl ?_
      refine op_nil ?_
      refine ax_eq (i := 6) (v' := .bool false) rfl (by first | rfl | (rw [decide_eq_false (by omega)])) ?_
      exact at_met (()) (trivial) (.cons rfl (.cons rfl (.cons rfl (.cons rfl (.nil _))))) (.cons rfl (.cons rfl (.nil _))) (.cons rfl (.nil _))
  ·
    refine cd_seq ?_
    refine cd_region ?_
    refine st (ev_move rfl) rfl rfl rfl ?_
    refine st (ev_move rfl) rfl rfl rfl ?_
    refine st (ev_move rfl) rfl rfl rfl ?_
    refine st_callv has25 rfl (fun w1 sw => attest_arg cb a t w1 (by by_cases h1 : Ck.isN a; exact .inr (fun h2 => hn ⟨h1, h2⟩); exact .inl h1)) rfl rfl ?_
    refine st (ev_move rfl) rfl rfl rfl ?_
    refine st (ev_extract rfl rfl) rfl rfl rfl ?_
    refine st (ev_extract rfl rfl) rfl rfl rfl ?_
    refine st_alloc (h := 7) ty31 rfl rfl rfl (fun b7 => ?_)
    refine st_store_all 7 ty31 rfl rfl rfl rfl rfl (by intro u hu; simp at hu; rcases hu with rfl | rfl <;> rfl) rfl rfl ?_
    refine st (ev_assign rfl) rfl rfl rfl ?_
    refine op_nil ?_
    refine ax_then ?_
    refine At.regs (L' := [(5, _), (6, _), (8, _)]) (.cons rfl (.cons rfl (.cons rfl (.nil _)))) ?_
    refine cd_seq ?_
    refine cd_region ?_
    refine st (ev_move rfl) rfl rfl rfl ?_
    refine st_call has25 rfl (fun w1 sw => rn5 213 411 412 413 414 (attest_any cb kb lv (4 :: List.replicate 31 0) 0 (1) (1) w1 rfl (⟨by decide, by decide⟩ : Ck.isN 1) (⟨by decide, by decide⟩ : Ck.isN 1) (by decide) (sw.blk_eq (h := 213) rfl) (sw.own_rd (h := 313) rfl) (sw.own_off (h := 213) (h' := 313) rfl rfl (by decide)) (sw.mem_lies (h := 24) rfl) (sw.off 24 _ 213 _ rfl rfl _ (by simp [Ent.ids])))) (mod_blk5 rfl) rfl rfl (fun x39 _ => ?_)
    obtain ⟨bv39, mv39, va39, vb39⟩ := x39
    dsimp only
    refine at_own_shape (h := 411) rfl (fun hsb39 => ?_)
    refine at_own_shape (h := 412) rfl (fun hsm39 => ?_)
    have hmf : (Qm.mflat [Ck.mk (4 :: List.replicate 31 0) (0) (Ck.body 1 1) va39 vb39]).length = 1 * 35 := by simp [Qm.mflat, Qm.mcells, Ck.mk, ints_length, Ky.keyPub_len]
    have hml : (Qm.mflat [Ck.mk (4 :: List.replicate 31 0) (0) (Ck.body 1 1) va39 vb39])[(0 : Int).toNat * 35 + 32 + 0]? = some (.int .i64 ((0 : Nat) : Int)) := by
      have e : (0 : Int).toNat * 35 + 32 + 0 = 32 := rfl
      rw [e]
      simp [Qm.mflat, Qm.mcells, Ck.mk, ints_length, Ky.keyPub_len, List.getElem?_append_right]
    refine st (ev_move rfl) rfl rfl rfl ?_
    refine st (ev_extract rfl rfl) rfl rfl rfl ?_
    refine st (ev_extract rfl rfl) rfl rfl rfl ?_
    refine st_alloc (h := 9) ty31 rfl rfl rfl (fun b9 => ?_)
    refine st_store_all 9 ty31 rfl rfl rfl rfl rfl (by intro u hu; simp at hu; rcases hu with rfl | rfl; exact hsb39.2; exact hsm39.2) rfl rfl ?_
    refine st (ev_assign rfl) rfl rfl rfl ?_
    refine op_nil ?_
    refine ax_then ?_
    refine At.regs (L' := [(6, _), (8, _), (9, _), (10, _)]) (.cons rfl (.cons rfl (.cons rfl (.cons rfl (.nil _))))) ?_
    refine cd_seq ?_
    refine cd_region ?_
    refine st (ev_assign rfl) rfl rfl rfl ?_
    refine op_nil ?_
    refine ax_then ?_
    refine At.regs (L' := [(6, _), (8, _), (9, _), (10, _), (11, _)]) (.cons rfl (.cons rfl (.cons rfl (.cons rfl (.cons rfl (.nil _)))))) ?_
    refine cd_seq ?_
    refine cd_seq ?_
    refine cd_region ?_
    refine st (ev_move rfl) rfl rfl rfl ?_
    refine op_nil ?_
    refine ax_then ?_
    refine At.regs (L' := [(6, _), (8, _), (9, _), (10, _), (11, _), (42, _)]) (.cons rfl (.cons rfl (.cons rfl (.cons rfl (.cons rfl (.cons rfl (.nil _))))))) ?_
    refine cd_false rfl ?_
    refine cd_skip ?_
    refine ax_then ?_
    refine At.regs (L' := [(6, _), (8, _), (9, _), (10, _), (11, _)]) (.cons rfl (.cons rfl (.cons rfl (.cons rfl (.cons rfl (.nil _)))))) ?_
    refine cd_seq ?_
    refine cd_region ?_
    refine st (ev_move rfl) rfl rfl rfl ?_
    refine st (ev_eql rfl rfl) rfl rfl rfl ?_
    refine st (ev_move rfl) rfl rfl rfl ?_
    refine st (ev_eql_bool Try.underlying4 rfl rfl) rfl rfl rfl ?_
    refine st (ev_move rfl) rfl rfl rfl ?_
    refine at_eq (i := 47) (v' := .bool true) rfl (by rfl) ?_
    refine st (ev_move rfl) rfl rfl rfl ?_
    refine st (ev_move rfl) rfl rfl rfl ?_
    refine st (ev_move rfl) rfl rfl rfl ?_
    refine st (ev_eql rfl rfl) rfl rfl rfl ?_
    refine st (ev_pick_f rfl rfl) rfl rfl rfl ?_
    refine st (ev_pick_t rfl rfl) rfl rfl rfl ?_
    refine st (ev_move rfl) rfl rfl rfl ?_
    refine at_eq (i := 54) (v' := .bool true) rfl (by rfl) ?_
    refine st (ev_move rfl) rfl rfl rfl ?_
    refine st (ev_eql rfl rfl) rfl rfl rfl ?_
    refine st (ev_pick_t rfl rfl) rfl rfl rfl ?_
    refine st (ev_move rfl) rfl rfl rfl ?_
    refine at_eq (i := 58) (v' := .bool true) rfl (by rfl) ?_
    refine st (ev_fieldAddr (b := _) Try.underlying31 (f := _) rfl ty29 (by decide) rfl) rfl rfl rfl ?_
    refine st (ld_blk1 (h := 9) ty29 rfl rfl rfl rfl) rfl rfl rfl ?_
    refine st (ev_len_own (h := 412) (n := 1) Try.underlying29 rfl rfl hmf (by decide)) rfl rfl rfl ?_
    refine st (ev_eql rfl rfl) rfl rfl rfl ?_
    refine st (ev_pick_t rfl rfl) rfl rfl rfl ?_
    refine st (ev_move rfl) rfl rfl rfl ?_
    refine at_eq (i := 64) (v' := .bool true) rfl (by rfl) ?_
    refine st (ev_fieldAddr (b := _) Try.underlying31 (f := _) rfl ty29 (by decide) rfl) rfl rfl rfl ?_
    refine st (ld_blk1 (h := 9) ty29 rfl rfl rfl rfl) rfl rfl rfl ?_
    refine st (ev_indexAddr_own (h := 412) (n := 1) Try.underlying29 ty82 rfl rfl rfl hmf (by decide) (by decide) (by decide)) rfl rfl rfl ?_
    refine st (ev_fieldIn (n := 32) (k := (0 : Int).toNat * 35) Try.underlying82 rfl rfl rfl (fun w1 sw => sw.own_rd (h := 412) rfl) (by rw [hmf]; decide) (fun b off hx => ev_fieldAddr (b := _) Try.underlying82 (f := _) rfl ty80 (by decide) hx)) rfl rfl rfl ?_
    refine st (ev_fieldIn (n := 0) (k := (0 : Int).toNat * 35 + 32) Try.underlying80 rfl rfl rfl (fun w1 sw => sw.own_rd (h := 412) rfl) (by rw [hmf]; decide) (fun b off hx => ev_fieldAddr (b := _) Try.underlying80 (f := _) rfl ty3 (by decide) hx)) rfl rfl rfl ?_
    refine st (ld_own1 (h := 412) ty3 rfl rfl rfl hml) rfl rfl rfl ?_
    refine st (ev_move rfl) rfl rfl rfl ?_
    refine st (ev_eql rfl rfl) rfl rfl rfl ?_
    refine st (ev_pick_t rfl rfl) rfl rfl rfl ?_
    refine st (ev_move rfl) rfl rfl rfl ?_
    refine at_eq (i := 74) (v' := .bool true) rfl (by rfl) ?_
    refine st_callv has30 rfl (fun w1 sw => known18_any w1) rfl rfl ?_
    refine st (ev_pick_t rfl rfl) rfl rfl rfl ?_
    refine st (ev_assign rfl) rfl rfl rfl ?_
    refine op_nil ?_
    refine ax_then ?_
    refine At.regs (L' := [(4, _)]) (.cons rfl (.nil _)) ?_
    refine cd_ret ?_
    refine rt_tmp (.inl rfl) Try.results11 rfl ?_
    exact fun w1 sw => ⟨rfl, sw.gives (.nil _)⟩
theorem clockBounds_any (a t : Int) (w : World) : Calls Try.prog 11 #[.int .i64 a, .int .i64 t] w (PostV w (.bool true)) := by
  by_cases h : Ck.isN a ∧ Ck.isN t
  · exact clockBounds_ok a t w h.1 h.2
  · exact clockBounds_no a t w h
end Go.Proofs.Ytgfnmolbagilmaa

namespace Go.Proofs.Ytgfnmolbagilmaa.Ck
open Go Fw Sha Ots Mk Go.Proofs.Ytgfnmolbagilmaa
set_option linter.unusedSimpArgs false
set_option linter.unusedVariables false
def ok (n : Nat) (a t : Int) : Prop := (isN a ∧ isN t) ∧ n < 16
instance (n : Nat) (a t : Int) : Decidable (ok n a t) := by unfold ok; infer_instance
def res (n : Nat) (a t : Int) : Int := if ok n a t then 0 else if isN a ∧ isN t then 3 else 1
def nxt (n : Nat) (a t : Int) : Nat := if ok n a t then n + 1 else n
def ebody (n : Nat) (a t : Int) : List Int := if ok n a t then body a t else []
def esig (s : List Int) (n : Nat) (a t : Int) : List (List Int) := if ok n a t then sign s n (body a t) 36 else []
def epath (s : List Int) (n : Nat) (a t : Int) : List (List Int) := if ok n a t then path (Ky.leaves s 16) n else []
def emarks (s : List Int) (n : Nat) (a t : Int) (va vb : Value) : List Qm.Mark := if ok n a t then [mk s n (body a t) va vb] else []
theorem nxt_le {n : Nat} (a t : Int) (h : n ≤ 16) : nxt n a t ≤ 16 := by
  unfold nxt
  split
  · next hk => have := hk.2; omega
  · exact h
theorem ebody_len (n : Nat) (a t : Int) : (ebody n a t).length ≤ 27 := by
  unfold ebody
  split
  · exact body_len a t
  · exact Nat.zero_le _
theorem ebody_byt (n : Nat) (a t : Int) : Byt (ebody n a t) := by
  unfold ebody
  split
  · exact body_byt a t
  · intro c hc; cases hc
theorem emarks_ok (s : List Int) (n : Nat) (a t : Int) (va vb : Value) : Qm.AOk (emarks s n a t va vb) := by
  unfold emarks
  split
  · next hk => exact mk_ok s hk.2 _ _ _
  · intro x hx; cases hx
theorem emarks_len (s : List Int) (n : Nat) (a t : Int) (va vb : Value) : (emarks s n a t va vb).length ≤ 1 := by
  unfold emarks
  split <;> simp
theorem emarks_rd {w : World} {s : List Int} {n : Nat} {a t : Int} {va vb : Value} (h1 : Rd w va 32 (flat (esig s n a t))) (h2 : Rd w vb 32 (flat (epath s n a t))) : ∀ x, x ∈ emarks s n a t va vb → Qm.MRd w x := by
  unfold emarks esig epath at *
  split
  · next hk =>
    rw [if_pos hk] at h1 h2
    intro x hx
    obtain rfl := List.mem_singleton.1 hx
    exact ⟨h1, h2⟩
  · intro x hx; cases hx
theorem emarks_strip (s : List Int) (n : Nat) (a t : Int) (va vb va' vb' : Value) : (emarks s n a t va vb).map Qm.strip = (emarks s n a t va' vb').map Qm.strip := by
  unfold emarks
  split <;> rfl
def hitS (k b : List Int) (y : Qm.Sp) : Prop := y.1 = k ∧ Ky.verP k b y.2.1 y.2.2.1 y.2.2.2
theorem some4_iff (b : List Int) (ms : List Qm.Mark) (k : List Int) : Qm.some4 b ms k ↔ ∃ y, y ∈ (ms.map Qm.strip).take 4 ∧ hitS k b y := by
  constructor
  · rintro ⟨x, hx, h⟩
    exact ⟨Qm.strip x, by rw [← List.map_take]; exact List.mem_map_of_mem hx, h⟩
  · rintro ⟨y, hy, h⟩
    rw [← List.map_take] at hy
    obtain ⟨x, hx, rfl⟩ := List.mem_map.1 hy
    exact ⟨x, hx, h⟩
theorem who_strip {b : List Int} {ms ms' : List Qm.Mark} (h : ms.map Qm.strip = ms'.map Qm.strip) (ks : List (List Int)) : Qm.who b ms ks = Qm.who b ms' ks := by
  have e : ∀ k, Qm.some4 b ms k ↔ Qm.some4 b ms' k := fun k => by rw [some4_iff, some4_iff, h]
  have ef : (fun (l : List (List Int)) k => if k ∉ l ∧ Qm.some4 b ms k then l ++ [k] else l) = (fun (l : List (List Int)) k => if k ∉ l ∧ Qm.some4 b ms' k then l ++ [k] else l) := by
   funext l k
   by_cases hk : k ∉ l ∧ Qm.some4 b ms k
   · rw [if_pos hk, if_pos ⟨hk.1, (e k).1 hk.2⟩]
   · rw [if_neg hk, if_neg fun hh => hk ⟨hh.1, (e k).2 hh.2⟩]
  exact congrArg (fun f => List.foldl f [] ks) ef
theorem meets_strip {b : List Int} {ms ms' : List Qm.Mark} (h : ms.map Qm.strip = ms'.map Qm.strip) (ks : List (List Int)) (need : Int) : meets b ms ks need ↔ meets b ms' ks need := by
  unfold meets
  rw [who_strip h]
theorem chk_strip {p b : List Int} {ms ms' : List Qm.Mark} (h : ms.map Qm.strip = ms'.map Qm.strip) (c : Int) : chk p b ms c = chk p b ms' c := by
  unfold chk
  by_cases hm : meets b ms [p] 1
  · rw [if_pos hm, if_pos ((meets_strip h _ _).1 hm)]
  · rw [if_neg hm, if_neg fun hh => hm ((meets_strip h _ _).2 hh)]
theorem chk_two (s : List Int) (n : Nat) (a t : Int) (va vb va' vb' : Value) (p : List Int) (c : Int) : chk p (ebody n a t) (emarks s n a t va vb) c = chk p (ebody n a t) (emarks s n a t va' vb') c := chk_strip (emarks_strip ..) c
end Go.Proofs.Ytgfnmolbagilmaa.Ck

namespace Go.Proofs.Ytgfnmolbagilmaa.Fw
open Go Go.RowKit Go.Proofs.Ytgfnmolbagilmaa
set_option linter.unusedSimpArgs false
set_option linter.unusedVariables false
theorem strOf_list (l : List Int) : (strOf l).toList = l.map fun x => UInt8.ofNat x.toNat := by
  rw [ByteArray.toList_eq]
  rfl
theorem strOf_inj : ∀ {l m : List Int}, Sha.Byt l → Sha.Byt m → (strOf l).toList = (strOf m).toList → l = m
  | [], [], _, _, _ => rfl
  | [], _ :: _, _, _, h => by rw [strOf_list, strOf_list] at h; simp at h
  | _ :: _, [], _, _, h => by rw [strOf_list, strOf_list] at h; simp at h
  | x :: l, y :: m, hl, hm, h => by
    rw [strOf_list, strOf_list, List.map_cons, List.map_cons, List.cons.injEq] at h
    have hx := hl x (by simp)
    have hy := hm y (by simp)
    have e : x = y := by
      have h1 := congrArg UInt8.toNat h.1
      simp at h1
      omega
    have e2 : l = m := strOf_inj (fun c hc => hl c (by simp [hc])) (fun c hc => hm c (by simp [hc])) (by rw [strOf_list, strOf_list]; exact h.2)
    rw [e, e2]
section
variable {P : Program} {E : Env} {L : List (Nat × Value)} {H : List (Nat × Ent)} {F : List (Nat × FE)}
variable {dst : Option Tmp} {ty : TypeId} {pos : String} {af : Array Edge} {gd : Option (Nat × Bool)}
theorem str_beq {l m : List Int} (hl : Sha.Byt l) (hm : Sha.Byt m) : ((strOf l).toList == (strOf m).toList) = decide (l = m) := by
  rw [Bool.eq_iff_iff, decide_eq_true_eq, beq_iff_eq]
  exact ⟨strOf_inj hl hm, fun h => by rw [h]⟩
theorem ev_neq_strb {T T' : Nat} {x y : Operand} {l m : List Int} (hx : ev L x = some (.string (strOf l))) (hy : ev L y = some (.string (strOf m))) (hl : Sha.Byt l) (hm : Sha.Byt m) : Ev P ⟨dst, .binOp .neq T x y T', ty, pos, af, gd⟩ E L H F (.bool (decide (¬ l = m))) :=
  fun a w fa _ => by
    have h := str_beq hl hm
    simp [execOp, fa.ev hx, fa.ev hy, eqGuard, binOp, Op.stringOp, bne, h]
theorem ev_neq_bool {T T' : Nat} {x y : Operand} {b c : Bool} (hT : P.underlying T = some .bool) (hx : ev L x = some (.bool b)) (hy : ev L y = some (.bool c)) : Ev P ⟨dst, .binOp .neq T x y T', ty, pos, af, gd⟩ E L H F (.bool (!(b == c))) :=
  fun a w fa _ => by
    have e0 : ∀ d, (Op.equalIn (d + 1) T (.bool b) (.bool c)).run P w = .ok (b == c) w := fun d => by simp [Op.equalIn, run_und hT]
    have e4 : (Op.equalIn Op.maxDepth T (.bool b) (.bool c)).run P w = .ok (b == c) w := e0 9999
    simp only [execOp, fa.ev hx, fa.ev hy, eqGuard, binOp, Op.equal, Sem.run_bind]
    simp [e4]
end
end Go.Proofs.Ytgfnmolbagilmaa.Fw

namespace Go.Proofs.Ytgfnmolbagilmaa
open Go Go.RowKit Fw
open Sha
open Ots
open Mk
set_option linter.unusedVariables false
set_option linter.unusedSimpArgs false
theorem attestG_any (cb kb : Nat) (lv : Value) (s : List Int) (n : Nat) (a t : Int) (w : World) (hl : s.length = 32) (hb : w.heap[kb]? = some (.cells (Ky.cells s lv ((n : Nat) : Int)).toArray 133)) (h : Rd w lv 32 (flat (Ky.leaves s 16))) (hbv : FE.off kb (.sl (lv) 32 (flat (Ky.leaves s 16)))) (hc : Lies w cb 0 [.pointer (some ⟨kb, 0, none⟩)]) (hck : FE.off kb (.mem cb 0 [.pointer (some ⟨kb, 0, none⟩)])) : Calls Try.prog 25 #[.pointer (some ⟨cb, 0, none⟩), .int .i64 a, .int .i64 t] w (Post (ι := Value × Value × Value × Value) w [kb] (fun _ => True) (fun x => .tuple #[.agg (List.toArray [x.1, x.2.1]), .int .i64 (Ck.res n a t)]) (fun x => [(0, .blk (kb) (.cells (Ky.cells s lv ((Ck.nxt n a t : Nat) : Int)).toArray 133)), (1, .own (x.1) 5 1 (ints .u8 (Ck.ebody n a t))), (2, .own (x.2.1) 82 35 (Qm.mflat (Ck.emarks s n a t x.2.2.1 x.2.2.2))), (3, .own (x.2.2.1) 55 32 (flat (Ck.esig s n a t))), (4, .own (x.2.2.2) 55 32 (flat (Ck.epath s n a t)))])) := by
  by_cases hk : Ck.ok n a t
  · refine (attest_any cb kb lv s n a t w hl hk.1.1 hk.1.2 hk.2 hb h hbv hc hck).mono ?_
    rintro e w' ⟨x, _, rfl, g⟩
    refine ⟨x, trivial, ?_, ?_⟩
    · simp only [Ck.res, Ck.nxt, Ck.ebody, Ck.emarks, Ck.esig, Ck.epath, if_pos hk]
    · simp only [Ck.res, Ck.nxt, Ck.ebody, Ck.emarks, Ck.esig, Ck.epath, if_pos hk]
      exact g
  · by_cases hn : Ck.isN a ∧ Ck.isN t
    · refine (attest_used cb kb lv s n a t w hl hn.1 hn.2 (by have h1 : ¬ n < 16 := fun h2 => hk ⟨hn, h2⟩; omega) (lies_blk hb) h hc).mono ?_
      rintro e w' ⟨rfl, g⟩
      refine ⟨(.slice none 0 0, .slice none 0 0, .slice none 0 0, .slice none 0 0), trivial, ?_, ?_⟩
      · simp only [Ck.res, if_neg hk, if_pos hn]
      · simp only [Ck.res, Ck.nxt, Ck.ebody, Ck.emarks, Ck.esig, Ck.epath, if_neg hk]
        exact Gives.still5 hb g
    · refine (attest_arg cb a t w (by by_cases h1 : Ck.isN a; exact .inr (fun h2 => hn ⟨h1, h2⟩); exact .inl h1)).mono ?_
      rintro e w' ⟨rfl, g⟩
      refine ⟨(.slice none 0 0, .slice none 0 0, .slice none 0 0, .slice none 0 0), trivial, ?_, ?_⟩
      · simp only [Ck.res, if_neg hk, if_neg hn]
      · simp only [Ck.res, Ck.nxt, Ck.ebody, Ck.emarks, Ck.esig, Ck.epath, if_neg hk]
        exact Gives.still5 hb g
theorem qattestG_any (cb kb : Nat) (lv : Value) (s : List Int) (n : Nat) (a t : Int) (w : World) (hl : s.length = 32) (hb : w.heap[kb]? = some (.cells (Ky.rcells s lv (Ky.keyPub s) ((n : Nat) : Int)).toArray 62)) (h : Rd w lv 32 (flat (Ky.leaves s 16))) (hbv : FE.off kb (.sl (lv) 32 (flat (Ky.leaves s 16)))) (hc : Lies w cb 0 [.pointer (some ⟨kb, 0, none⟩)]) (hck : FE.off kb (.mem cb 0 [.pointer (some ⟨kb, 0, none⟩)])) : Calls Try.prog 26 #[.pointer (some ⟨cb, 0, none⟩), .int .i64 a, .int .i64 t] w (Post (ι := Value × Value × Value × Value) w [kb] (fun _ => True) (fun x => .tuple #[.agg (List.toArray [x.1, x.2.1]), .int .i64 (Ck.res n a t)]) (fun x => [(0, .blk (kb) (.cells (Ky.rcells s lv (Ky.keyPub s) ((Ck.nxt n a t : Nat) : Int)).toArray 62)), (1, .own (x.1) 5 1 (ints .u8 (Ck.ebody n a t))), (2, .own (x.2.1) 82 35 (Qm.mflat (Ck.emarks s n a t x.2.2.1 x.2.2.2))), (3, .own (x.2.2.1) 55 32 (flat (Ck.esig s n a t))), (4, .own (x.2.2.2) 55 32 (flat (Ck.epath s n a t)))])) := by
  by_cases hk : Ck.ok n a t
  · refine (qattest_any cb kb lv s n a t w hl hk.1.1 hk.1.2 hk.2 hb h hbv hc hck).mono ?_
    rintro e w' ⟨x, _, rfl, g⟩
    refine ⟨x, trivial, ?_, ?_⟩
    · simp only [Ck.res, Ck.nxt, Ck.ebody, Ck.emarks, Ck.esig, Ck.epath, if_pos hk]
    · simp only [Ck.res, Ck.nxt, Ck.ebody, Ck.emarks, Ck.esig, Ck.epath, if_pos hk]
      exact g
  · by_cases hn : Ck.isN a ∧ Ck.isN t
    · refine (qattest_used cb kb lv s n a t w hl hn.1 hn.2 (by have h1 : ¬ n < 16 := fun h2 => hk ⟨hn, h2⟩; omega) (lies_blk hb)  hc).mono ?_
      rintro e w' ⟨rfl, g⟩
      refine ⟨(.slice none 0 0, .slice none 0 0, .slice none 0 0, .slice none 0 0), trivial, ?_, ?_⟩
      · simp only [Ck.res, if_neg hk, if_pos hn]
      · simp only [Ck.res, Ck.nxt, Ck.ebody, Ck.emarks, Ck.esig, Ck.epath, if_neg hk]
        exact Gives.still5 hb g
    · refine (qattest_arg cb a t w (by by_cases h1 : Ck.isN a; exact .inr (fun h2 => hn ⟨h1, h2⟩); exact .inl h1)).mono ?_
      rintro e w' ⟨rfl, g⟩
      refine ⟨(.slice none 0 0, .slice none 0 0, .slice none 0 0, .slice none 0 0), trivial, ?_, ?_⟩
      · simp only [Ck.res, if_neg hk, if_neg hn]
      · simp only [Ck.res, Ck.nxt, Ck.ebody, Ck.emarks, Ck.esig, Ck.epath, if_neg hk]
        exact Gives.still5 hb g
theorem strip_eq {x y : Qm.Mark} : Qm.strip x = Qm.strip y ↔ x.key = y.key ∧ x.leaf = y.leaf ∧ x.cs = y.cs ∧ x.ps = y.ps := by
  unfold Qm.strip
  simp only [Prod.mk.injEq]
theorem strips_ext {ms ms2 : List Qm.Mark} (hl : ms.length = ms2.length) (h : ∀ j, (h1 : j < ms.length) → (h2 : j < ms2.length) → Qm.strip ms[j] = Qm.strip ms2[j]) : ms.map Qm.strip = ms2.map Qm.strip := by
  apply List.ext_getElem
  · simp [hl]
  · intro j h1 h2
    rw [List.getElem_map, List.getElem_map]
    exact h j (by simpa using h1) (by simpa using h2)
theorem strips_get {ms ms2 : List Qm.Mark} (h : ms.map Qm.strip = ms2.map Qm.strip) {j : Nat} (h1 : j < ms.length) (h2 : j < ms2.length) : Qm.strip ms[j] = Qm.strip ms2[j] := by
  have e := List.getElem_of_eq h (i := j) (by simpa using h1)
  rwa [List.getElem_map, List.getElem_map] at e
theorem strips_len {ms ms2 : List Qm.Mark} (h : ms.map Qm.strip = ms2.map Qm.strip) : ms.length = ms2.length := by simpa using congrArg List.length h
set_option maxRecDepth 20000 in
set_option maxHeartbeats 8000000 in
theorem renv_any (pb mv pb2 mv2 : Value) (body body2 : List Int) (ms ms2 : List Qm.Mark) (w : World) (hbody : Rd w pb 1 (ints .u8 body)) (hb2 : Rd w pb2 1 (ints .u8 body2)) (hy : Byt body) (hy2 : Byt body2) (ha : Qm.AOk ms) (ha2 : Qm.AOk ms2) (hml : ms.length ≤ 1000000) (hml2 : ms2.length ≤ 1000000) (hm : Rd w mv 35 (Qm.mflat ms)) (hm2 : Rd w mv2 35 (Qm.mflat ms2)) (hmr : ∀ x, x ∈ ms → Qm.MRd w x) (hmr2 : ∀ x, x ∈ ms2 → Qm.MRd w x) : Calls Try.prog 27 #[.agg (List.toArray [pb, mv]), .agg (List.toArray [pb2, mv2])] w (PostV w (.bool (decide (body = body2 ∧ ms.map Qm.strip = ms2.map Qm.strip)))) := by
  have hmf := Qm.mflat_len ha
  have hmf2 := Qm.mflat_len ha2
  refine calls_at (vs := [.agg (List.toArray [pb, mv]), .agg (List.toArray [pb2, mv2])]) (X := []) (H := []) (F := [(32, .sl (pb2) 1 (ints .u8 (body2))), (31, .sl (mv2) 35 (Qm.mflat (ms2))), (22, .sl (pb) 1 (ints .u8 (body))), (21, .sl (mv) 35 (Qm.mflat (ms)))]) 58 Try.func27 rfl rfl rfl (((((Sat.rd0 21 hm).more 22 hbody).more 31 hm2).more 32 hb2)) ?_
  refine cd_seq ?_
  refine cd_region ?_
  refine st_box (h := 2) rfl rfl rfl rfl (fun b2 => ?_)
  refine st_box (h := 3) rfl rfl rfl rfl (fun b3 => ?_)
  refine st (ev_assign rfl) rfl rfl rfl ?_
  refine op_nil ?_
  refine ax_then ?_
  refine At.regs (L' := [(2, _), (3, _), (4, _)]) (.cons rfl (.cons rfl (.cons rfl (.nil _)))) ?_
  refine cd_seq ?_
  refine cd_seq ?_
  refine at_freeze_blk (h := 2) (H' := [(3, _)]) 2 rfl (.cons rfl (.nil _)) rfl ?_
  refine at_freeze_blk (h := 3) (H' := []) 3 rfl (.nil _) rfl ?_
  refine cd_region ?_
  refine st (ev_fieldAddr (b := _) Try.underlying31 (f := _) rfl ty28 (by decide) rfl) rfl rfl rfl ?_
  refine st (ld_mem1 (h := 2) ty28 rfl rfl rfl (Nat.zero_add _).symm rfl) rfl rfl rfl ?_
  refine st (ev_string Try.underlying28 Try.underlying5 Try.underlying9 rfl (fun w1 sw => sw.sl_rd (h := 22) rfl)) rfl rfl rfl ?_
  refine st (ev_fieldAddr (b := _) Try.underlying31 (f := _) rfl ty28 (by decide) rfl) rfl rfl rfl ?_
  refine st (ld_mem1 (h := 3) ty28 rfl rfl rfl (Nat.zero_add _).symm rfl) rfl rfl rfl ?_
  refine st (ev_string Try.underlying28 Try.underlying5 Try.underlying9 rfl (fun w1 sw => sw.sl_rd (h := 32) rfl)) rfl rfl rfl ?_
  refine st (ev_neq_strb rfl rfl hy hy2) rfl rfl rfl ?_
  refine st (ev_move rfl) rfl rfl rfl ?_
  refine at_split_if (i := 13) rfl (fun hg13 => ?_) (fun hg13 => ?_)
  ·
    refine st_skip rfl rfl rfl ?_
    refine st_skip rfl rfl rfl ?_
    refine st_skip rfl rfl rfl ?_
    refine st_skip rfl rfl rfl ?_
    refine st_skip rfl rfl rfl ?_
    refine st_skip rfl rfl rfl ?_
    refine st_skip rfl rfl rfl ?_
    refine st (ev_pick_t rfl rfl) rfl rfl rfl ?_
    refine op_nil ?_
    refine ax_then ?_
    refine At.regs (L' := [(2, _), (3, _), (4, _), (21, _)]) (.cons rfl (.cons rfl (.cons rfl (.cons rfl (.nil _))))) ?_
    refine cd_true rfl ?_
    refine cd_seq ?_
    refine cd_region ?_
    refine st (ev_assign rfl) rfl rfl rfl ?_
    refine op_nil ?_
    refine ax_then ?_
    refine At.regs (L' := [(2, _), (3, _), (4, _)]) (.cons rfl (.cons rfl (.cons rfl (.nil _)))) ?_
    refine cd_ret ?_
    refine ax_then_ret ?_
    refine rt_tmp (.inl rfl) Try.results27 rfl ?_
    exact fun w1 sw => ⟨congrArg (fun b => Ending.returned (Value.bool b)) (by exact (decide_eq_false (fun hh => hg13 hh.1)).symm), sw.gives (.nil _)⟩
  ·
    refine st (ev_fieldAddr (b := _) Try.underlying31 (f := _) rfl ty29 (by decide) rfl) rfl rfl rfl ?_
    refine st (ld_mem1 (h := 2) ty29 rfl rfl rfl (Nat.zero_add _).symm rfl) rfl rfl rfl ?_
    refine st (ev_len_rd (h := 21) (n := ms.length) Try.underlying29 rfl rfl hmf (by decide)) rfl rfl rfl ?_
    refine st (ev_fieldAddr (b := _) Try.underlying31 (f := _) rfl ty29 (by decide) rfl) rfl rfl rfl ?_
    refine st (ld_mem1 (h := 3) ty29 rfl rfl rfl (Nat.zero_add _).symm rfl) rfl rfl rfl ?_
    refine st (ev_len_rd (h := 31) (n := ms2.length) Try.underlying29 rfl rfl hmf2 (by decide)) rfl rfl rfl ?_
    refine st (ev_neq rfl rfl) rfl rfl rfl ?_
    refine st (ev_pick_f rfl rfl) rfl rfl rfl ?_
    refine op_nil ?_
    refine ax_then ?_
    refine At.regs (L' := [(2, _), (3, _), (4, _), (21, _)]) (.cons rfl (.cons rfl (.cons rfl (.cons rfl (.nil _))))) ?_
    refine cd_if rfl (fun hc21 => ?_) (fun hc21 => ?_)
    ·
      refine cd_seq ?_
      refine cd_region ?_
      refine st (ev_assign rfl) rfl rfl rfl ?_
      refine op_nil ?_
      refine ax_then ?_
      refine At.regs (L' := [(2, _), (3, _), (4, _)]) (.cons rfl (.cons rfl (.cons rfl (.nil _)))) ?_
      refine cd_ret ?_
      refine ax_then_ret ?_
      refine rt_tmp (.inl rfl) Try.results27 rfl ?_
      exact fun w1 sw => ⟨congrArg (fun b => Ending.returned (Value.bool b)) (by exact (decide_eq_false (fun hh => by have := strips_len hh.2; omega)).symm), sw.gives (.nil _)⟩
    ·
      refine cd_skip ?_
      refine ax_then ?_
      refine At.regs (L' := [(2, _), (3, _), (4, _)]) (.cons rfl (.cons rfl (.cons rfl (.nil _)))) ?_
      refine cd_seq ?_
      refine cd_seq ?_
      refine cd_region ?_
      refine st (ev_assign rfl) rfl rfl rfl ?_
      refine op_nil ?_
      refine ax_then ?_
      refine At.regs (L' := [(2, _), (3, _), (4, _), (5, _)]) (.cons rfl (.cons rfl (.cons rfl (.cons rfl (.nil _))))) ?_
      refine cd_block ?_
      refine cd_loop (ι := Nat) (fun i => i ≤ ms.length ∧ ∀ j, (hj : j < i) → (h1 : j < ms.length) → (h2 : j < ms2.length) → Qm.strip ms[j] = Qm.strip ms2[j]) (fun i => ms.length - i)
          (fun i => [(2, .pointer (some ⟨b2, 0, none⟩)), (3, .pointer (some ⟨b3, 0, none⟩)), (5, .int .i64 (i : Int))])
          (fun i => [])
          (fun i => [(2, .mem b2 0 [pb, mv]), (3, .mem b3 0 [pb2, mv2]), (21, .sl (mv) 35 (Qm.mflat (ms))), (22, .sl (pb) 1 (ints .u8 (body))), (31, .sl (mv2) 35 (Qm.mflat (ms2))), (32, .sl (pb2) 1 (ints .u8 (body2)))])
          0 (⟨by omega, fun j hj => by omega⟩) (.cons rfl (.cons rfl (.cons rfl (.nil _)))) (.nil _) (.cons rfl (.cons rfl (.cons rfl (.cons rfl (.cons rfl (.cons rfl (.nil _))))))) (fun i hi => ?_)
      have e0 : (i : Int).toNat = i := by omega
      have hi1 := hi.1
      have hle : ms.length = ms2.length := by omega
      refine cd_seq ?_
      refine cd_seq ?_
      refine cd_region ?_
      refine st (ev_move rfl) rfl rfl rfl ?_
      refine st (ev_fieldAddr (b := _) Try.underlying31 (f := _) rfl ty29 (by decide) rfl) rfl rfl rfl ?_
      refine st (ld_mem1 (h := 2) ty29 rfl rfl rfl (Nat.zero_add _).symm rfl) rfl rfl rfl ?_
      refine st (ev_len_rd (h := 21) (n := ms.length) Try.underlying29 rfl rfl hmf (by decide)) rfl rfl rfl ?_
      refine st (ev_lss rfl rfl) rfl rfl rfl ?_
      refine op_nil ?_
      refine ax_then ?_
      refine At.regs (L' := [(2, _), (3, _), (5, _), (22, _), (23, _), (24, _), (25, _), (26, _)]) (.cons rfl (.cons rfl (.cons rfl (.cons rfl (.cons rfl (.cons rfl (.cons rfl (.cons rfl (.nil _))))))))) ?_
      refine cd_if rfl (fun hc26 => ?_) (fun hc26 => ?_)
      ·
        have hlt : i < ms.length := by omega
        have hlt2 : i < ms2.length := by omega
        have hxo := ha ms[i] (List.getElem_mem hlt)
        have hxo2 := ha2 ms2[i] (List.getElem_mem hlt2)
        have hxk := hxo.1
        have hxk2 := hxo2.1
        have hr1 := hmr ms[i] (List.getElem_mem hlt)
        have hr2 := hmr2 ms2[i] (List.getElem_mem hlt2)
        refine cd_skip ?_
        refine ax_then ?_
        refine At.regs (L' := [(2, _), (3, _), (5, _), (22, _), (23, _), (24, _), (25, _), (26, _)]) (.cons rfl (.cons rfl (.cons rfl (.cons rfl (.cons rfl (.cons rfl (.cons rfl (.cons rfl (.nil _))))))))) ?_
        refine cd_seq ?_
        refine cd_block ?_
        refine cd_seq ?_
        refine cd_mix hmix ?_
        refine mx (i := 0) rfl (by decide +kernel) (by decide +kernel) (by decide +kernel) rfl (fun w0 => ev_fieldAddr (b := _) Try.underlying31 (f := _) rfl ty29 (by decide) rfl) rfl rfl (Sub.refl _) ?_
        refine mx (i := 1) rfl (by decide +kernel) (by decide +kernel) (by decide +kernel) rfl (fun w0 => ld_mem1 (h := 2) ty29 rfl rfl rfl (Nat.zero_add _).symm rfl) rfl rfl (Sub.refl _) ?_
        refine mx (i := 2) rfl (by decide +kernel) (by decide +kernel) (by decide +kernel) rfl (fun w0 => ev_move rfl) rfl rfl (Sub.refl _) ?_
        refine mx (i := 3) rfl (by decide +kernel) (by decide +kernel) (by decide +kernel) rfl (fun w0 => ev_indexAddr_rd (h := 21) (n := ms.length) Try.underlying29 ty82 rfl rfl rfl hmf (by decide) (by omega) (by omega)) rfl rfl (Sub.refl _) ?_
        refine mx (i := 4) rfl (by decide +kernel) (by decide +kernel) (by decide +kernel) rfl (fun w0 => ev_fieldIn (n := 0) (k := (i : Int).toNat * 35) Try.underlying82 rfl rfl rfl (fun w1 sw => sw.sl_rd (h := 21) rfl) (by rw [hmf, e0]; omega) (fun b off hx => ev_fieldAddr (b := _) Try.underlying82 (f := _) rfl ty55 (by decide) hx)) rfl rfl (Sub.refl _) ?_
        refine mx (i := 5) rfl (by decide +kernel) (by decide +kernel) (by decide +kernel) rfl (fun w0 => ld_rd (k := (i : Int).toNat * 35 + 0) (h := 21) ty55 rfl rfl rfl (by decide) (by rw [hmf, e0]; omega)) rfl rfl (Sub.refl _) ?_
        refine at_eq (i := 34) (v' := .agg (ints .u8 (ms[i].key)).toArray) rfl (congrArg (fun x => Value.agg (List.toArray x)) (by rw [e0]; exact Qm.mflat_key ha hlt)) ?_
        refine mx (i := 6) rfl (by decide +kernel) (by decide +kernel) (by decide +kernel) rfl (fun w0 => ev_fieldAddr (b := _) Try.underlying31 (f := _) rfl ty29 (by decide) rfl) rfl rfl (Sub.refl _) ?_
        refine mx (i := 7) rfl (by decide +kernel) (by decide +kernel) (by decide +kernel) rfl (fun w0 => ld_mem1 (h := 3) ty29 rfl rfl rfl (Nat.zero_add _).symm rfl) rfl rfl (Sub.refl _) ?_
        refine mx (i := 8) rfl (by decide +kernel) (by decide +kernel) (by decide +kernel) rfl (fun w0 => ev_move rfl) rfl rfl (Sub.refl _) ?_
        refine mx (i := 9) rfl (by decide +kernel) (by decide +kernel) (by decide +kernel) rfl (fun w0 => ev_indexAddr_rd (h := 31) (n := ms2.length) Try.underlying29 ty82 rfl rfl rfl hmf2 (by decide) (by omega) (by omega)) rfl rfl (Sub.refl _) ?_
        refine mx (i := 10) rfl (by decide +kernel) (by decide +kernel) (by decide +kernel) rfl (fun w0 => ev_fieldIn (n := 0) (k := (i : Int).toNat * 35) Try.underlying82 rfl rfl rfl (fun w1 sw => sw.sl_rd (h := 31) rfl) (by rw [hmf2, e0]; omega) (fun b off hx => ev_fieldAddr (b := _) Try.underlying82 (f := _) rfl ty55 (by decide) hx)) rfl rfl (Sub.refl _) ?_
        refine mx (i := 11) rfl (by decide +kernel) (by decide +kernel) (by decide +kernel) rfl (fun w0 => ld_rd (k := (i : Int).toNat * 35 + 0) (h := 31) ty55 rfl rfl rfl (by decide) (by rw [hmf2, e0]; omega)) rfl rfl (Sub.refl _) ?_
        refine at_eq (i := 40) (v' := .agg (ints .u8 (ms2[i].key)).toArray) rfl (congrArg (fun x => Value.agg (List.toArray x)) (by rw [e0]; exact Qm.mflat_key ha2 hlt2)) ?_
        refine mx (i := 12) rfl (by decide +kernel) (by decide +kernel) (by decide +kernel) rfl (fun w0 => ev_neq_arr Try.underlying55 ty5 eqg55 rfl rfl (by first | omega | (simp only [List.length_append, List.length_cons, List.length_nil, List.length_set, List.length_replicate, List.length_take, List.length_drop, ints_length, wr_length, sha_len, node_len, recov_len, Ky.named_len, Ky.keyPub_len, Ky.hashOf_len] <;> omega) | rfl) (by first | omega | (simp only [List.length_append, List.length_cons, List.length_nil, List.length_set, List.length_replicate, List.length_take, List.length_drop, ints_length, wr_length, sha_len, node_len, recov_len, Ky.named_len, Ky.keyPub_len, Ky.hashOf_len] <;> omega) | rfl)) rfl rfl (Sub.refl _) ?_
        refine mx (i := 13) rfl (by decide +kernel) (by decide +kernel) (by decide +kernel) rfl (fun w0 => ev_move rfl) rfl rfl (Sub.refl _) ?_
        refine at_split_if (i := 42) rfl (fun hg42 => ?_) (fun hg42 => ?_)
        ·
          refine mx_skip (i := 14) rfl (by decide +kernel) (by decide +kernel) (by decide +kernel) rfl rfl rfl (Sub.refl _) ?_
          refine mx_skip (i := 15) rfl (by decide +kernel) (by decide +kernel) (by decide +kernel) rfl rfl rfl (Sub.refl _) ?_
          refine mx_skip (i := 16) rfl (by decide +kernel) (by decide +kernel) (by decide +kernel) rfl rfl rfl (Sub.refl _) ?_
          refine mx_skip (i := 17) rfl (by decide +kernel) (by decide +kernel) (by decide +kernel) rfl rfl rfl (Sub.refl _) ?_
          refine mx_skip (i := 18) rfl (by decide +kernel) (by decide +kernel) (by decide +kernel) rfl rfl rfl (Sub.refl _) ?_
          refine mx_skip (i := 19) rfl (by decide +kernel) (by decide +kernel) (by decide +kernel) rfl rfl rfl (Sub.refl _) ?_
          refine mx_skip (i := 20) rfl (by decide +kernel) (by decide +kernel) (by decide +kernel) rfl rfl rfl (Sub.refl _) ?_
          refine mx_skip (i := 21) rfl (by decide +kernel) (by decide +kernel) (by decide +kernel) rfl rfl rfl (Sub.refl _) ?_
          refine mx_skip (i := 22) rfl (by decide +kernel) (by decide +kernel) (by decide +kernel) rfl rfl rfl (Sub.refl _) ?_
          refine mx_skip (i := 23) rfl (by decide +kernel) (by decide +kernel) (by decide +kernel) rfl rfl rfl (Sub.refl _) ?_
          refine mx_skip (i := 24) rfl (by decide +kernel) (by decide +kernel) (by decide +kernel) rfl rfl rfl (Sub.refl _) ?_
          refine mx_skip (i := 25) rfl (by decide +kernel) (by decide +kernel) (by decide +kernel) rfl rfl rfl (Sub.refl _) ?_
          refine mx_skip (i := 26) rfl (by decide +kernel) (by decide +kernel) (by decide +kernel) rfl rfl rfl (Sub.refl _) ?_
          refine mx_skip (i := 27) rfl (by decide +kernel) (by decide +kernel) (by decide +kernel) rfl rfl rfl (Sub.refl _) ?_
          refine mx (i := 28) rfl (by decide +kernel) (by decide +kernel) (by decide +kernel) rfl (fun w0 => ev_pick_t rfl rfl) rfl rfl (Sub.refl _) ?_
          refine mx_done (by decide +kernel) (Sub.refl _) ?_
          refine ax_then ?_
          refine At.regs (L' := [(2, _), (3, _), (5, _), (22, _), (23, _), (24, _), (25, _), (26, _), (29, _), (30, _), (31, _), (32, _), (33, _), (34, _), (35, _), (36, _), (37, _), (38, _), (39, _), (40, _), (41, _), (42, _), (43, _), (44, _), (45, _), (46, _), (47, _), (48, _), (49, _), (50, _), (51, _), (52, _), (53, _), (54, _), (55, _), (56, _), (57, _)]) (.cons rfl (.cons rfl (.cons rfl (.cons rfl (.cons rfl (.cons rfl (.cons rfl (.cons rfl (.cons rfl (.cons rfl (.cons rfl (.cons rfl (.cons rfl (.cons rfl (.cons rfl (.cons rfl (.cons rfl (.cons rfl (.cons rfl (.cons rfl (.cons rfl (.cons rfl (.cons rfl (.cons rfl (.cons rfl (.cons rfl (.cons rfl (.cons rfl (.cons rfl (.cons rfl (.cons rfl (.cons rfl (.cons rfl (.cons rfl (.cons rfl (.cons rfl (.cons rfl (.nil _)))))))))))))))))))))))))))))))))))))) ?_
          refine cd_true rfl ?_
          refine cd_seq ?_
          refine cd_region ?_
          refine st (ev_assign rfl) rfl rfl rfl ?_
          refine op_nil ?_
          refine ax_then ?_
          refine At.regs (L' := [(2, _), (3, _), (4, _), (5, _), (22, _), (23, _), (24, _), (25, _), (26, _), (29, _), (30, _), (31, _), (32, _), (33, _), (34, _), (35, _), (36, _), (37, _), (38, _), (39, _), (40, _), (41, _), (42, _), (43, _), (44, _), (45, _), (46, _), (47, _), (48, _), (49, _), (50, _), (51, _), (52, _), (53, _), (54, _), (55, _), (56, _), (57, _)]) (.cons rfl (.cons rfl (.cons rfl (.cons rfl (.cons rfl (.cons rfl (.cons rfl (.cons rfl (.cons rfl (.cons rfl (.cons rfl (.cons rfl (.cons rfl (.cons rfl (.cons rfl (.cons rfl (.cons rfl (.cons rfl (.cons rfl (.cons rfl (.cons rfl (.cons rfl (.cons rfl (.cons rfl (.cons rfl (.cons rfl (.cons rfl (.cons rfl (.cons rfl (.cons rfl (.cons rfl (.cons rfl (.cons rfl (.cons rfl (.cons rfl (.cons rfl (.cons rfl (.cons rfl (.nil _))))))))))))))))))))))))))))))))))))))) ?_
          refine cd_ret ?_
          refine ax_block_ret ?_
          refine ax_then_ret ?_
          refine ax_then_ret ?_
          refine ax_block_ret ?_
          refine ax_then_ret ?_
          refine rt_tmp (.inl rfl) Try.results27 rfl ?_
          exact fun w1 sw => ⟨congrArg (fun b => Ending.returned (Value.bool b)) (by exact (decide_eq_false (fun hh => hg42 ((strip_eq.1 (strips_get hh.2 hlt hlt2)).1))).symm), sw.gives (.nil _)⟩
        ·
          refine mx (i := 14) rfl (by decide +kernel) (by decide +kernel) (by decide +kernel) rfl (fun w0 => ev_fieldAddr (b := _) Try.underlying31 (f := _) rfl ty29 (by decide) rfl) rfl rfl (Sub.refl _) ?_
          refine mx (i := 15) rfl (by decide +kernel) (by decide +kernel) (by decide +kernel) rfl (fun w0 => ld_mem1 (h := 2) ty29 rfl rfl rfl (Nat.zero_add _).symm rfl) rfl rfl (Sub.refl _) ?_
          refine mx (i := 16) rfl (by decide +kernel) (by decide +kernel) (by decide +kernel) rfl (fun w0 => ev_move rfl) rfl rfl (Sub.refl _) ?_
          refine mx (i := 17) rfl (by decide +kernel) (by decide +kernel) (by decide +kernel) rfl (fun w0 => ev_indexAddr_rd (h := 21) (n := ms.length) Try.underlying29 ty82 rfl rfl rfl hmf (by decide) (by omega) (by omega)) rfl rfl (Sub.refl _) ?_
          refine mx (i := 18) rfl (by decide +kernel) (by decide +kernel) (by decide +kernel) rfl (fun w0 => ev_fieldIn (n := 0) (k := (i : Int).toNat * 35) Try.underlying82 rfl rfl rfl (fun w1 sw => sw.sl_rd (h := 21) rfl) (by rw [hmf, e0]; omega) (fun b off hx => ev_fieldAddr (b := _) Try.underlying82 (f := _) rfl ty80 (by decide) hx)) rfl rfl (Sub.refl _) ?_
          refine mx (i := 19) rfl (by decide +kernel) (by decide +kernel) (by decide +kernel) rfl (fun w0 => ld_rd (k := (i : Int).toNat * 35 + 32) (h := 21) ty80 rfl rfl rfl (by decide) (by rw [hmf, e0]; omega)) rfl rfl (Sub.refl _) ?_
          refine at_eq (i := 48) (v' := .agg (List.toArray [.int .i64 ms[i].leaf, ms[i].vc, ms[i].vp])) rfl (congrArg (fun x => Value.agg (List.toArray x)) (by rw [e0]; exact Qm.mflat_sig ha hlt)) ?_
          refine mx (i := 20) rfl (by decide +kernel) (by decide +kernel) (by decide +kernel) rfl (fun w0 => ev_fieldAddr (b := _) Try.underlying31 (f := _) rfl ty29 (by decide) rfl) rfl rfl (Sub.refl _) ?_
          refine mx (i := 21) rfl (by decide +kernel) (by decide +kernel) (by decide +kernel) rfl (fun w0 => ld_mem1 (h := 3) ty29 rfl rfl rfl (Nat.zero_add _).symm rfl) rfl rfl (Sub.refl _) ?_
          refine mx (i := 22) rfl (by decide +kernel) (by decide +kernel) (by decide +kernel) rfl (fun w0 => ev_move rfl) rfl rfl (Sub.refl _) ?_
          refine mx (i := 23) rfl (by decide +kernel) (by decide +kernel) (by decide +kernel) rfl (fun w0 => ev_indexAddr_rd (h := 31) (n := ms2.length) Try.underlying29 ty82 rfl rfl rfl hmf2 (by decide) (by omega) (by omega)) rfl rfl (Sub.refl _) ?_
          refine mx (i := 24) rfl (by decide +kernel) (by decide +kernel) (by decide +kernel) rfl (fun w0 => ev_fieldIn (n := 0) (k := (i : Int).toNat * 35) Try.underlying82 rfl rfl rfl (fun w1 sw => sw.sl_rd (h := 31) rfl) (by rw [hmf2, e0]; omega) (fun b off hx => ev_fieldAddr (b := _) Try.underlying82 (f := _) rfl ty80 (by decide) hx)) rfl rfl (Sub.refl _) ?_
          refine mx (i := 25) rfl (by decide +kernel) (by decide +kernel) (by decide +kernel) rfl (fun w0 => ld_rd (k := (i : Int).toNat * 35 + 32) (h := 31) ty80 rfl rfl rfl (by decide) (by rw [hmf2, e0]; omega)) rfl rfl (Sub.refl _) ?_
          refine at_eq (i := 54) (v' := .agg (List.toArray [.int .i64 ms2[i].leaf, ms2[i].vc, ms2[i].vp])) rfl (congrArg (fun x => Value.agg (List.toArray x)) (by rw [e0]; exact Qm.mflat_sig ha2 hlt2)) ?_
          refine mx_one (i := 26) (by decide +kernel) (Sub.refl _) ?_
          refine wo (i := 26) rfl ?_
          refine st_callv has49 rfl (fun w1 sw => rsame5_any ms[i].leaf ms2[i].leaf ms[i].vc ms[i].vp ms2[i].vc ms2[i].vp ms[i].cs ms[i].ps ms2[i].cs ms2[i].ps w1 hxo.2.1 hxo.2.2.1 hxo2.2.1 hxo2.2.2.1 hxo.2.2.2.1 hxo.2.2.2.2 hxo2.2.2.2.1 hxo2.2.2.2.2 ((Qm.Keeps.of sw).mrd hr1).1 ((Qm.Keeps.of sw).mrd hr1).2 ((Qm.Keeps.of sw).mrd hr2).1 ((Qm.Keeps.of sw).mrd hr2).2) rfl rfl ?_
          refine op_nil ?_
          refine ax_then ?_
          refine mx (i := 27) rfl (by decide +kernel) (by decide +kernel) (by decide +kernel) rfl (fun w0 => ev_not_if rfl) rfl rfl (Sub.refl _) ?_
          refine mx (i := 28) rfl (by decide +kernel) (by decide +kernel) (by decide +kernel) rfl (fun w0 => ev_pick_f rfl rfl) rfl rfl (Sub.refl _) ?_
          refine mx_done (by decide +kernel) (Sub.refl _) ?_
          refine ax_then ?_
          refine At.regs (L' := [(2, _), (3, _), (5, _), (22, _), (23, _), (24, _), (25, _), (26, _), (29, _), (30, _), (31, _), (32, _), (33, _), (34, _), (35, _), (36, _), (37, _), (38, _), (39, _), (40, _), (41, _), (42, _), (43, _), (44, _), (45, _), (46, _), (47, _), (48, _), (49, _), (50, _), (51, _), (52, _), (53, _), (54, _), (55, _), (56, _), (57, _)]) (.cons rfl (.cons rfl (.cons rfl (.cons rfl (.cons rfl (.cons rfl (.cons rfl (.cons rfl (.cons rfl (.cons rfl (.cons rfl (.cons rfl (.cons rfl (.cons rfl (.cons rfl (.cons rfl (.cons rfl (.cons rfl (.cons rfl (.cons rfl (.cons rfl (.cons rfl (.cons rfl (.cons rfl (.cons rfl (.cons rfl (.cons rfl (.cons rfl (.cons rfl (.cons rfl (.cons rfl (.cons rfl (.cons rfl (.cons rfl (.cons rfl (.cons rfl (.cons rfl (.nil _)))))))))))))))))))))))))))))))))))))) ?_
          refine cd_if rfl (fun hc57 => ?_) (fun hc57 => ?_)
          ·
            refine cd_seq ?_
            refine cd_region ?_
            refine st (ev_assign rfl) rfl rfl rfl ?_
            refine op_nil ?_
            refine ax_then ?_
            refine At.regs (L' := [(2, _), (3, _), (4, _), (5, _), (22, _), (23, _), (24, _), (25, _), (26, _), (29, _), (30, _), (31, _), (32, _), (33, _), (34, _), (35, _), (36, _), (37, _), (38, _), (39, _), (40, _), (41, _), (42, _), (43, _), (44, _), (45, _), (46, _), (47, _), (48, _), (49, _), (50, _), (51, _), (52, _), (53, _), (54, _), (55, _), (56, _), (57, _)]) (.cons rfl (.cons rfl (.cons rfl (.cons rfl (.cons rfl (.cons rfl (.cons rfl (.cons rfl (.cons rfl (.cons rfl (.cons rfl (.cons rfl (.cons rfl (.cons rfl (.cons rfl (.cons rfl (.cons rfl (.cons rfl (.cons rfl (.cons rfl (.cons rfl (.cons rfl (.cons rfl (.cons rfl (.cons rfl (.cons rfl (.cons rfl (.cons rfl (.cons rfl (.cons rfl (.cons rfl (.cons rfl (.cons rfl (.cons rfl (.cons rfl (.cons rfl (.cons rfl (.cons rfl (.nil _))))))))))))))))))))))))))))))))))))))) ?_
            refine cd_ret ?_
            refine ax_block_ret ?_
            refine ax_then_ret ?_
            refine ax_then_ret ?_
            refine ax_block_ret ?_
            refine ax_then_ret ?_
            refine rt_tmp (.inl rfl) Try.results27 rfl ?_
            exact fun w1 sw => ⟨congrArg (fun b => Ending.returned (Value.bool b)) (by exact (decide_eq_false (fun hh => hc57 ((strip_eq.1 (strips_get hh.2 hlt hlt2)).2))).symm), sw.gives (.nil _)⟩
          ·
            refine cd_skip ?_
            refine ax_block ?_
            refine ax_then ?_
            refine At.regs (L' := [(2, _), (3, _), (5, _), (22, _), (23, _), (24, _), (25, _), (26, _), (29, _), (30, _), (31, _), (32, _), (33, _), (34, _), (35, _), (36, _), (37, _), (38, _), (39, _), (40, _), (41, _), (42, _), (43, _), (44, _), (45, _), (46, _), (47, _), (48, _), (49, _), (50, _), (51, _), (52, _), (53, _), (54, _), (55, _), (56, _), (57, _)]) (.cons rfl (.cons rfl (.cons rfl (.cons rfl (.cons rfl (.cons rfl (.cons rfl (.cons rfl (.cons rfl (.cons rfl (.cons rfl (.cons rfl (.cons rfl (.cons rfl (.cons rfl (.cons rfl (.cons rfl (.cons rfl (.cons rfl (.cons rfl (.cons rfl (.cons rfl (.cons rfl (.cons rfl (.cons rfl (.cons rfl (.cons rfl (.cons rfl (.cons rfl (.cons rfl (.cons rfl (.cons rfl (.cons rfl (.cons rfl (.cons rfl (.cons rfl (.cons rfl (.nil _)))))))))))))))))))))))))))))))))))))) ?_
            refine cd_region ?_
            refine st (ev_move rfl) rfl rfl rfl ?_
            refine st (ev_add64 rfl rfl (by omega) (by omega)) rfl rfl rfl ?_
            refine st (ev_assign rfl) rfl rfl rfl ?_
            refine op_nil ?_
            exact at_again (i + 1) (⟨by omega, fun j hj h1 h2 => (Nat.lt_succ_iff_lt_or_eq.1 hj).elim (fun h => hi.2 j h h1 h2) (fun e => by subst e; exact strip_eq.2 ⟨Classical.not_not.1 hg42, Classical.not_not.1 hc57⟩)⟩) (by omega) (.cons rfl (.cons rfl (.cons rfl (.nil _)))) (.nil _) (.cons rfl (.cons rfl (.cons rfl (.cons rfl (.cons rfl (.cons rfl (.nil _)))))))
      ·
        obtain rfl : i = ms.length := by omega
        refine cd_exit ?_
        refine ax_then_exit ?_
        refine ax_then_exit ?_
        refine ax_block_hit ?_
        refine ax_then ?_
        refine At.regs (L' := []) (.nil _) ?_
        refine cd_seq ?_
        refine cd_region ?_
        refine st (ev_assign rfl) rfl rfl rfl ?_
        refine op_nil ?_
        refine ax_then ?_
        refine At.regs (L' := [(4, _)]) (.cons rfl (.nil _)) ?_
        refine cd_ret ?_
        refine rt_tmp (.inl rfl) Try.results27 rfl ?_
        exact fun w1 sw => ⟨congrArg (fun b => Ending.returned (Value.bool b)) (by exact (decide_eq_true ⟨Classical.not_not.1 hg13, strips_ext hle (fun j h1 h2 => hi.2 j h1 h1 h2)⟩).symm), sw.gives (.nil _)⟩
set_option maxRecDepth 20000 in
set_option maxHeartbeats 8000000 in
theorem clockUsed_any (n : Int) (w : World) : Calls Try.prog 9 #[.int .i64 n] w (PostV w (.bool true)) := by
  refine calls_at (vs := [.int .i64 n]) (X := []) (H := []) (F := []) 62 Try.func9 rfl rfl rfl (Sat.start0 w) ?_
  refine cd_seq ?_
  refine cd_region ?_
  refine st (ev_assign rfl) rfl rfl rfl ?_
  refine op_nil ?_
  refine ax_then ?_
  refine At.regs (L' := [(0, _), (2, _)]) (.cons rfl (.cons rfl (.nil _))) ?_
  refine cd_seq ?_
  refine cd_seq ?_
  refine cd_region ?_
  refine st (ev_move rfl) rfl rfl rfl ?_
  refine st (ev_lss rfl rfl) rfl rfl rfl ?_
  refine st (ev_move rfl) rfl rfl rfl ?_
  refine at_split_if (i := 12) rfl (fun hg12 => ?_) (fun hg12 => ?_)
  ·
    refine st_skip rfl rfl rfl ?_
    refine st_skip rfl rfl rfl ?_
    refine st (ev_pick_t rfl rfl) rfl rfl rfl ?_
    refine op_nil ?_
    refine ax_then ?_
    refine At.regs (L' := [(0, _), (2, _), (15, _)]) (.cons rfl (.cons rfl (.cons rfl (.nil _)))) ?_
    refine cd_true rfl ?_
    refine cd_seq ?_
    refine cd_region ?_
    refine st_callv has30 rfl (fun w1 sw => known18_any w1) rfl rfl ?_
    refine st (ev_assign rfl) rfl rfl rfl ?_
    refine op_nil ?_
    refine ax_then ?_
    refine At.regs (L' := [(0, _), (2, _)]) (.cons rfl (.cons rfl (.nil _))) ?_
    refine cd_ret ?_
    refine ax_then_ret ?_
    refine rt_tmp (.inl rfl) Try.results9 rfl ?_
    exact fun w1 sw => ⟨rfl, sw.gives (.nil _)⟩
  ·
    refine st (ev_move rfl) rfl rfl rfl ?_
    refine st (ev_gtr rfl rfl) rfl rfl rfl ?_
    refine st (ev_pick_f rfl rfl) rfl rfl rfl ?_
    refine op_nil ?_
    refine ax_then ?_
    refine At.regs (L' := [(0, _), (2, _), (15, _)]) (.cons rfl (.cons rfl (.cons rfl (.nil _)))) ?_
    refine cd_if rfl (fun hc15 => ?_) (fun hc15 => ?_)
    ·
      refine cd_seq ?_
      refine cd_region ?_
      refine st_callv has30 rfl (fun w1 sw => known18_any w1) rfl rfl ?_
      refine st (ev_assign rfl) rfl rfl rfl ?_
      refine op_nil ?_
      refine ax_then ?_
      refine At.regs (L' := [(0, _), (2, _)]) (.cons rfl (.cons rfl (.nil _))) ?_
      refine cd_ret ?_
      refine ax_then_ret ?_
      refine rt_tmp (.inl rfl) Try.results9 rfl ?_
      exact fun w1 sw => ⟨rfl, sw.gives (.nil _)⟩
    ·
      refine cd_skip ?_
      refine ax_then ?_
      refine At.regs (L' := [(0, _), (2, _)]) (.cons rfl (.cons rfl (.nil _))) ?_
      refine cd_seq ?_
      refine cd_region ?_
      refine st (ev_build_array ty55 rfl ty5 rfl rfl) rfl rfl rfl ?_
      refine at_eq (i := 17) (v' := .agg (ints .u8 ((9 :: List.replicate 31 0))).toArray) rfl (by kernel_rfl) ?_
      refine st_call has22 rfl (fun w1 sw => rn3 18 218 318 (cnew_any (9 :: List.replicate 31 0) w1 rfl)) nil_all rfl rfl (fun x18 _ => ?_)
      obtain ⟨cb, kb, lv⟩ := x18
      dsimp only
      refine at_freeze_blk (h := 18) (H' := [(218, _), (318, _)]) 24 rfl (.cons rfl (.cons rfl (.nil _))) rfl ?_
      refine st (ev_assign rfl) rfl rfl rfl ?_
      refine op_nil ?_
      refine ax_then ?_
      refine At.regs (L' := [(0, _), (2, _), (3, _)]) (.cons rfl (.cons rfl (.cons rfl (.nil _)))) ?_
      refine cd_seq ?_
      refine cd_seq ?_
      refine cd_region ?_
      refine st (ev_move rfl) rfl rfl rfl ?_
      refine st (ev_eql_ptr_nil Try.underlying56 rfl rfl) rfl rfl rfl ?_
      refine op_nil ?_
      refine ax_then ?_
      refine At.regs (L' := [(0, _), (2, _), (3, _), (20, _)]) (.cons rfl (.cons rfl (.cons rfl (.cons rfl (.nil _))))) ?_
      refine cd_false rfl ?_
      refine cd_skip ?_
      refine ax_then ?_
      refine At.regs (L' := [(0, _), (2, _), (3, _)]) (.cons rfl (.cons rfl (.cons rfl (.nil _)))) ?_
      refine cd_seq ?_
      refine cd_seq ?_
      refine cd_region ?_
      refine st (ev_assign rfl) rfl rfl rfl ?_
      refine op_nil ?_
      refine ax_then ?_
      refine At.regs (L' := [(0, _), (2, _), (3, _), (4, _)]) (.cons rfl (.cons rfl (.cons rfl (.cons rfl (.nil _))))) ?_
      refine cd_block ?_
      refine at_heq (i := 218) (v' := .blk (kb) (.cells (Ky.cells (9 :: List.replicate 31 0) lv ((min 0 16 : Nat) : Int)).toArray 133)) rfl rfl ?_
      refine cd_loop (ι := Nat) (fun i => (i : Int) ≤ n) (fun i => n.toNat - i)
          (fun i => [(0, .int .i64 n), (3, .pointer (some ⟨cb, 0, none⟩)), (4, .int .i64 (i : Int))])
          (fun i => [(218, .blk (kb) (.cells (Ky.cells (9 :: List.replicate 31 0) lv ((min i 16 : Nat) : Int)).toArray 133)), (318, .own (lv) 55 32 (flat (Ky.leaves (9 :: List.replicate 31 0) 16)))])
          (fun i => [(24, .mem cb 0 [.pointer (some ⟨kb, 0, none⟩)])])
          0 (by omega) (.cons rfl (.cons rfl (.cons rfl (.nil _)))) (.cons rfl (.cons rfl (.nil _))) (.cons rfl (.nil _)) (fun i hi => ?_)
      have hin : Ck.isN (i : Int) := ⟨by omega, by omega⟩
      have hok : Ck.ok (min i 16) i i ↔ i < 16 := ⟨fun h => by have := h.2; omega, fun h => ⟨⟨hin, hin⟩, by omega⟩⟩
      have hres : Ck.res (min i 16) i i = if i < 16 then 0 else 3 := by
        unfold Ck.res
        by_cases h : i < 16
        · rw [if_pos (hok.2 h), if_pos h]
        · rw [if_neg (fun hh => h (hok.1 hh)), if_pos ⟨hin, hin⟩, if_neg h]
      have hnx : Ck.nxt (min i 16) i i = min (i + 1) 16 := by
        unfold Ck.nxt
        by_cases h : i < 16
        · rw [if_pos (hok.2 h)]; omega
        · rw [if_neg (fun hh => h (hok.1 hh))]; omega
      have hr2 : Ck.res (min i 16) i i = 0 ∨ Ck.res (min i 16) i i = 3 := by rw [hres]; split <;> simp
      have hb38 : (!(decide (Ck.res (min i 16) i i = 0) == decide ((i : Int) < 16))) = false := by
        rw [hres]
        by_cases h : i < 16
        · have h2 : (i : Int) < 16 := by omega
          simp [h, h2]
        · have h2 : ¬ (i : Int) < 16 := by omega
          simp [h, h2]
      refine cd_seq ?_
      refine cd_seq ?_
      refine cd_region ?_
      refine st (ev_move rfl) rfl rfl rfl ?_
      refine st (ev_move rfl) rfl rfl rfl ?_
      refine st (ev_lss rfl rfl) rfl rfl rfl ?_
      refine op_nil ?_
      refine ax_then ?_
      refine At.regs (L' := [(0, _), (3, _), (4, _), (21, _), (22, _), (23, _)]) (.cons rfl (.cons rfl (.cons rfl (.cons rfl (.cons rfl (.cons rfl (.nil _))))))) ?_
      refine cd_if rfl (fun hc23 => ?_) (fun hc23 => ?_)
      ·
        refine cd_skip ?_
        refine ax_then ?_
        refine At.regs (L' := [(0, _), (3, _), (4, _), (21, _), (22, _), (23, _)]) (.cons rfl (.cons rfl (.cons rfl (.cons rfl (.cons rfl (.cons rfl (.nil _))))))) ?_
        refine cd_seq ?_
        refine cd_block ?_
        refine cd_seq ?_
        refine cd_region ?_
        refine st (ev_move rfl) rfl rfl rfl ?_
        refine st (ev_move rfl) rfl rfl rfl ?_
        refine st (ev_move rfl) rfl rfl rfl ?_
        refine st_call has25 rfl (fun w1 sw => rn5 218 401 402 403 404 (attestG_any cb kb lv (9 :: List.replicate 31 0) (min i 16) (i) (i) w1 rfl (sw.blk_eq (h := 218) rfl) (sw.own_rd (h := 318) rfl) (sw.own_off (h := 218) (h' := 318) rfl rfl (by decide)) (sw.mem_lies (h := 24) rfl) (sw.off 24 _ 218 _ rfl rfl _ (by simp [Ent.ids])))) (mod_blk5 rfl) rfl rfl (fun x30 _ => ?_)
        obtain ⟨bv30, mv30, va30, vb30⟩ := x30
        dsimp only
        refine at_own_shape (h := 401) rfl (fun hsb30 => ?_)
        refine at_own_shape (h := 402) rfl (fun hsm30 => ?_)
        refine st (ev_move rfl) rfl rfl rfl ?_
        refine st (ev_extract rfl rfl) rfl rfl rfl ?_
        refine st (ev_extract rfl rfl) rfl rfl rfl ?_
        refine st_alloc (h := 5) ty31 rfl rfl rfl (fun b5 => ?_)
        refine st_store_all 5 ty31 rfl rfl rfl rfl rfl (by intro u hu; simp at hu; rcases hu with rfl | rfl; exact hsb30.2; exact hsm30.2) rfl rfl ?_
        refine st (ev_assign rfl) rfl rfl rfl ?_
        refine op_nil ?_
        refine ax_then ?_
        refine At.regs (L' := [(0, _), (3, _), (4, _), (5, _), (6, _), (21, _), (22, _), (23, _), (26, _), (27, _), (28, _), (29, _), (30, _), (31, _), (32, _)]) (.cons rfl (.cons rfl (.cons rfl (.cons rfl (.cons rfl (.cons rfl (.cons rfl (.cons rfl (.cons rfl (.cons rfl (.cons rfl (.cons rfl (.cons rfl (.cons rfl (.cons rfl (.nil _)))))))))))))))) ?_
        refine cd_seq ?_
        refine cd_region ?_
        refine st (ev_move rfl) rfl rfl rfl ?_
        refine st (ev_eql rfl rfl) rfl rfl rfl ?_
        refine st (ev_move rfl) rfl rfl rfl ?_
        refine st (ev_lss rfl rfl) rfl rfl rfl ?_
        refine st (ev_neq_bool Try.underlying4 rfl rfl) rfl rfl rfl ?_
        refine st (ev_move rfl) rfl rfl rfl ?_
        refine at_eq (i := 38) (v' := .bool false) rfl (by rw [hb38]) ?_
        refine st (ev_move rfl) rfl rfl rfl ?_
        refine st (ev_neq rfl rfl) rfl rfl rfl ?_
        refine st (ev_move rfl) rfl rfl rfl ?_
        refine at_split_if (i := 41) rfl (fun hg41 => ?_) (fun hg41 => ?_)
        ·
          refine st (ev_move rfl) rfl rfl rfl ?_
          refine st (ev_neq rfl rfl) rfl rfl rfl ?_
          refine st (ev_pick_t rfl rfl) rfl rfl rfl ?_
          refine st (ev_pick_f rfl rfl) rfl rfl rfl ?_
          refine op_nil ?_
          refine ax_then ?_
          refine At.regs (L' := [(0, _), (3, _), (4, _), (5, _), (6, _), (21, _), (22, _), (23, _), (26, _), (27, _), (28, _), (29, _), (30, _), (31, _), (32, _), (33, _), (34, _), (35, _), (36, _), (37, _), (38, _), (39, _), (40, _), (41, _), (42, _), (43, _), (44, _), (45, _)]) (.cons rfl (.cons rfl (.cons rfl (.cons rfl (.cons rfl (.cons rfl (.cons rfl (.cons rfl (.cons rfl (.cons rfl (.cons rfl (.cons rfl (.cons rfl (.cons rfl (.cons rfl (.cons rfl (.cons rfl (.cons rfl (.cons rfl (.cons rfl (.cons rfl (.cons rfl (.cons rfl (.cons rfl (.cons rfl (.cons rfl (.cons rfl (.cons rfl (.nil _))))))))))))))))))))))))))))) ?_
          refine cd_if_f rfl (fun h => hr2.elim (fun e => hg41 e) (fun e => h e)) ?_
          refine cd_skip ?_
          refine ax_block ?_
          refine ax_then ?_
          refine At.regs (L' := [(0, _), (3, _), (4, _), (5, _), (6, _), (21, _), (22, _), (23, _), (26, _), (27, _), (28, _), (29, _), (30, _), (31, _), (32, _), (33, _), (34, _), (35, _), (36, _), (37, _), (38, _), (39, _), (40, _), (41, _), (42, _), (43, _), (44, _), (45, _)]) (.cons rfl (.cons rfl (.cons rfl (.cons rfl (.cons rfl (.cons rfl (.cons rfl (.cons rfl (.cons rfl (.cons rfl (.cons rfl (.cons rfl (.cons rfl (.cons rfl (.cons rfl (.cons rfl (.cons rfl (.cons rfl (.cons rfl (.cons rfl (.cons rfl (.cons rfl (.cons rfl (.cons rfl (.cons rfl (.cons rfl (.cons rfl (.cons rfl (.nil _))))))))))))))))))))))))))))) ?_
          refine cd_region ?_
          refine st (ev_move rfl) rfl rfl rfl ?_
          refine st (ev_add64 rfl rfl (by omega) (by omega)) rfl rfl rfl ?_
          refine st (ev_assign rfl) rfl rfl rfl ?_
          refine op_nil ?_
          refine ax_heq (i := 218) (v' := .blk (kb) (.cells (Ky.cells (9 :: List.replicate 31 0) lv ((min (i + 1) 16 : Nat) : Int)).toArray 133)) rfl (by rw [hnx]) ?_
          exact at_again (i + 1) (by omega) (by omega) (.cons rfl (.cons rfl (.cons rfl (.nil _)))) (.cons rfl (.cons rfl (.nil _))) (.cons rfl (.nil _))
        ·
          refine st_skip rfl rfl rfl ?_
          refine st_skip rfl rfl rfl ?_
          refine st (ev_pick_f rfl rfl) rfl rfl rfl ?_
          refine st (ev_pick_f rfl rfl) rfl rfl rfl ?_
          refine op_nil ?_
          refine ax_then ?_
          refine At.regs (L' := [(0, _), (3, _), (4, _), (5, _), (6, _), (21, _), (22, _), (23, _), (26, _), (27, _), (28, _), (29, _), (30, _), (31, _), (32, _), (33, _), (34, _), (35, _), (36, _), (37, _), (38, _), (39, _), (40, _), (41, _), (42, _), (43, _), (44, _), (45, _)]) (.cons rfl (.cons rfl (.cons rfl (.cons rfl (.cons rfl (.cons rfl (.cons rfl (.cons rfl (.cons rfl (.cons rfl (.cons rfl (.cons rfl (.cons rfl (.cons rfl (.cons rfl (.cons rfl (.cons rfl (.cons rfl (.cons rfl (.cons rfl (.cons rfl (.cons rfl (.cons rfl (.cons rfl (.cons rfl (.cons rfl (.cons rfl (.cons rfl (.nil _))))))))))))))))))))))))))))) ?_
          refine cd_false rfl ?_
          refine cd_skip ?_
          refine ax_block ?_
          refine ax_then ?_
          refine At.regs (L' := [(0, _), (3, _), (4, _), (5, _), (6, _), (21, _), (22, _), (23, _), (26, _), (27, _), (28, _), (29, _), (30, _), (31, _), (32, _), (33, _), (34, _), (35, _), (36, _), (37, _), (38, _), (39, _), (40, _), (41, _), (42, _), (43, _), (44, _), (45, _)]) (.cons rfl (.cons rfl (.cons rfl (.cons rfl (.cons rfl (.cons rfl (.cons rfl (.cons rfl (.cons rfl (.cons rfl (.cons rfl (.cons rfl (.cons rfl (.cons rfl (.cons rfl (.cons rfl (.cons rfl (.cons rfl (.cons rfl (.cons rfl (.cons rfl (.cons rfl (.cons rfl (.cons rfl (.cons rfl (.cons rfl (.cons rfl (.cons rfl (.nil _))))))))))))))))))))))))))))) ?_
          refine cd_region ?_
          refine st (ev_move rfl) rfl rfl rfl ?_
          refine st (ev_add64 rfl rfl (by omega) (by omega)) rfl rfl rfl ?_
          refine st (ev_assign rfl) rfl rfl rfl ?_
          refine op_nil ?_
          refine ax_heq (i := 218) (v' := .blk (kb) (.cells (Ky.cells (9 :: List.replicate 31 0) lv ((min (i + 1) 16 : Nat) : Int)).toArray 133)) rfl (by rw [hnx]) ?_
          exact at_again (i + 1) (by omega) (by omega) (.cons rfl (.cons rfl (.cons rfl (.nil _)))) (.cons rfl (.cons rfl (.nil _))) (.cons rfl (.nil _))
      ·
        refine cd_exit ?_
        refine ax_then_exit ?_
        refine ax_then_exit ?_
        refine ax_block_hit ?_
        refine ax_then ?_
        refine At.regs (L' := []) (.nil _) ?_
        refine cd_seq ?_
        refine cd_region ?_
        refine st (ev_assign rfl) rfl rfl rfl ?_
        refine op_nil ?_
        refine ax_then ?_
        refine At.regs (L' := [(7, _)]) (.cons rfl (.nil _)) ?_
        refine cd_seq ?_
        refine cd_region ?_
        refine st (ev_move rfl) rfl rfl rfl ?_
        refine st_callv has25 rfl (fun w1 sw => attest_nil 1 1 w1) rfl rfl ?_
        refine st (ev_move rfl) rfl rfl rfl ?_
        refine st (ev_extract rfl rfl) rfl rfl rfl ?_
        refine st (ev_extract rfl rfl) rfl rfl rfl ?_
        refine st_alloc (h := 8) ty31 rfl rfl rfl (fun b8 => ?_)
        refine st_store_all 8 ty31 rfl rfl rfl rfl rfl (by intro u hu; simp at hu; rcases hu with rfl | rfl <;> rfl) rfl rfl ?_
        refine st (ev_assign rfl) rfl rfl rfl ?_
        refine op_nil ?_
        refine ax_then ?_
        refine At.regs (L' := [(7, _), (9, _)]) (.cons rfl (.cons rfl (.nil _))) ?_
        refine cd_seq ?_
        refine cd_region ?_
        refine st (ev_move rfl) rfl rfl rfl ?_
        refine st (ev_eql rfl rfl) rfl rfl rfl ?_
        refine st (ev_move rfl) rfl rfl rfl ?_
        refine at_eq (i := 53) (v' := .bool true) rfl (by rfl) ?_
        refine st (ev_move rfl) rfl rfl rfl ?_
        refine st_callv has24 rfl (fun w1 sw => cpub_nil w1) rfl rfl ?_
        refine st (ev_build_array ty55 rfl ty5 rfl rfl) rfl rfl rfl ?_
        refine st (ev_eql_arr Try.underlying55 ty5 eqg55 rfl rfl (by first | omega | (simp only [List.length_append, List.length_cons, List.length_nil, List.length_set, List.length_replicate, List.length_take, List.length_drop, ints_length, wr_length, sha_len, node_len, recov_len, Ky.named_len, Ky.keyPub_len, Ky.hashOf_len] <;> omega) | rfl) (by first | omega | (simp only [List.length_append, List.length_cons, List.length_nil, List.length_set, List.length_replicate, List.length_take, List.length_drop, ints_length, wr_length, sha_len, node_len, recov_len, Ky.named_len, Ky.keyPub_len, Ky.hashOf_len] <;> omega) | rfl)) rfl rfl rfl ?_
        refine st (ev_pick_t rfl rfl) rfl rfl rfl ?_
        refine st (ev_move rfl) rfl rfl rfl ?_
        refine at_eq (i := 59) (v' := .bool true) rfl (by simp) ?_
        refine st_callv has30 rfl (fun w1 sw => known18_any w1) rfl rfl ?_
        refine st (ev_pick_t rfl rfl) rfl rfl rfl ?_
        refine st (ev_assign rfl) rfl rfl rfl ?_
        refine op_nil ?_
        refine ax_then ?_
        refine At.regs (L' := [(2, _)]) (.cons rfl (.nil _)) ?_
        refine cd_ret ?_
        refine rt_tmp (.inl rfl) Try.results9 rfl ?_
        exact fun w1 sw => ⟨rfl, sw.gives (.nil _)⟩
end Go.Proofs.Ytgfnmolbagilmaa

namespace Go.Proofs.Ytgfnmolbagilmaa
open Go Go.RowKit Fw
open Sha
open Ots
open Mk
set_option linter.unusedVariables false
set_option linter.unusedSimpArgs false
theorem hash_byt (p : List Int) : Byt (sha p) := fun c hc => by
  unfold sha hashL at hc
  obtain ⟨i, _, rfl⟩ := List.mem_map.1 hc
  unfold u8
  simp only [IntKind.wrap, IntKind.signed, IntKind.bits, Bool.false_and, Bool.false_eq_true, if_false]
  omega
theorem byt_turn {b : List Int} (hb : Byt b) (i : Nat) (y : Int) : Byt (b.take i ++ [ixor .u8 (b.getD i 0) y] ++ b.drop (i + 1)) := fun c hc => by
  rw [List.append_assoc] at hc
  rcases List.mem_append.1 hc with hc | hc
  · exact hb c (List.mem_of_mem_take hc)
  · rcases List.mem_append.1 hc with hc | hc
    · rw [List.mem_singleton.1 hc]
      unfold ixor
      simp only [IntKind.wrap, IntKind.signed, IntKind.bits, Bool.false_and, Bool.false_eq_true, if_false]
      omega
    · exact hb c (List.mem_of_mem_drop hc)
theorem turn_ne {h : List Int} (hl : h.length = 32) (i : Nat) (hi : i < 32) (hb : Byt h) : h ≠ h.set i (ixor .u8 (h.getD i 0) 1) := fun e => by
  have h1 := congrArg (fun l => l.getD i 0) e
  simp only [List.getD_eq_getElem?_getD, List.getElem?_set_self (by omega : i < h.length), Option.getD_some] at h1
  have h2 : h.getD i 0 ∈ h := by rw [List.getD_eq_getElem?_getD, List.getElem?_eq_getElem (by omega)]; exact List.getElem_mem _
  obtain ⟨h3, h4⟩ := hb _ h2
  rw [← List.getD_eq_getElem?_getD] at h1
  obtain ⟨c, hc⟩ := Int.eq_ofNat_of_zero_le h3
  rw [hc] at h1 h4
  have key : ∀ c : Nat, c < 256 → (c : Int) ≠ ixor .u8 (c : Int) 1 := by decide +kernel
  exact key c (by omega) h1
set_option maxRecDepth 20000 in
set_option maxHeartbeats 8000000 in
theorem clockForged_any (s : List Int) (a t at_ y : Int) (w : World) (hl : s.length = 32) : Calls Try.prog 8 #[.agg (ints .u8 (s)).toArray, .int .i64 a, .int .i64 t, .int .i64 at_, .int .u8 y] w (PostV w (.bool true)) := by
  refine calls_at (vs := [.agg (ints .u8 (s)).toArray, .int .i64 a, .int .i64 t, .int .i64 at_, .int .u8 y]) (X := []) (H := []) (F := []) 113 Try.func8 rfl rfl rfl (Sat.start0 w) ?_
  refine cd_seq ?_
  refine cd_region ?_
  refine st_box (h := 5) rfl rfl rfl rfl (fun b5 => ?_)
  refine st (ev_assign rfl) rfl rfl rfl ?_
  refine op_nil ?_
  refine ax_then ?_
  refine At.regs (L' := [(1, _), (2, _), (3, _), (4, _), (5, _), (10, _)]) (.cons rfl (.cons rfl (.cons rfl (.cons rfl (.cons rfl (.cons rfl (.nil _))))))) ?_
  refine cd_seq ?_
  refine cd_seq ?_
  refine cd_region ?_
  refine st (ev_move rfl) rfl rfl rfl ?_
  refine st (ev_lss rfl rfl) rfl rfl rfl ?_
  refine st (ev_move rfl) rfl rfl rfl ?_
  refine at_split_if (i := 23) rfl (fun hg23 => ?_) (fun hg23 => ?_)
  ·
    refine st_skip rfl rfl rfl ?_
    refine st_skip rfl rfl rfl ?_
    refine st (ev_pick_t rfl rfl) rfl rfl rfl ?_
    refine st (ev_move rfl) rfl rfl rfl ?_
    refine st_skip rfl rfl rfl ?_
    refine st_skip rfl rfl rfl ?_
    refine st (ev_pick_t rfl rfl) rfl rfl rfl ?_
    refine st (ev_move rfl) rfl rfl rfl ?_
    refine st_skip rfl rfl rfl ?_
    refine st_skip rfl rfl rfl ?_
    refine st (ev_pick_t rfl rfl) rfl rfl rfl ?_
    refine st (ev_move rfl) rfl rfl rfl ?_
    refine st_skip rfl rfl rfl ?_
    refine st_skip rfl rfl rfl ?_
    refine st (ev_pick_t rfl rfl) rfl rfl rfl ?_
    refine op_nil ?_
    refine ax_then ?_
    refine At.regs (L' := [(1, _), (2, _), (3, _), (4, _), (5, _), (10, _), (38, _)]) (.cons rfl (.cons rfl (.cons rfl (.cons rfl (.cons rfl (.cons rfl (.cons rfl (.nil _)))))))) ?_
    refine cd_true rfl ?_
    refine cd_seq ?_
    refine cd_region ?_
    refine st (ev_assign rfl) rfl rfl rfl ?_
    refine op_nil ?_
    refine ax_then ?_
    refine At.regs (L' := [(1, _), (2, _), (3, _), (4, _), (5, _), (10, _)]) (.cons rfl (.cons rfl (.cons rfl (.cons rfl (.cons rfl (.cons rfl (.nil _))))))) ?_
    refine cd_ret ?_
    refine ax_then_ret ?_
    refine rt_tmp (.inl rfl) Try.results8 rfl ?_
    exact fun w1 sw => ⟨rfl, sw.gives (.nil _)⟩
  ·
    refine st (ev_move rfl) rfl rfl rfl ?_
    refine st (ev_gtr rfl rfl) rfl rfl rfl ?_
    refine st (ev_pick_f rfl rfl) rfl rfl rfl ?_
    refine st (ev_move rfl) rfl rfl rfl ?_
    refine at_split_if (i := 27) rfl (fun hg27 => ?_) (fun hg27 => ?_)
    ·
      refine st_skip rfl rfl rfl ?_
      refine st_skip rfl rfl rfl ?_
      refine st (ev_pick_t rfl rfl) rfl rfl rfl ?_
      refine st (ev_move rfl) rfl rfl rfl ?_
      refine st_skip rfl rfl rfl ?_
      refine st_skip rfl rfl rfl ?_
      refine st (ev_pick_t rfl rfl) rfl rfl rfl ?_
      refine st (ev_move rfl) rfl rfl rfl ?_
      refine st_skip rfl rfl rfl ?_
      refine st_skip rfl rfl rfl ?_
      refine st (ev_pick_t rfl rfl) rfl rfl rfl ?_
      refine op_nil ?_
      refine ax_then ?_
      refine At.regs (L' := [(1, _), (2, _), (3, _), (4, _), (5, _), (10, _), (38, _)]) (.cons rfl (.cons rfl (.cons rfl (.cons rfl (.cons rfl (.cons rfl (.cons rfl (.nil _)))))))) ?_
      refine cd_true rfl ?_
      refine cd_seq ?_
      refine cd_region ?_
      refine st (ev_assign rfl) rfl rfl rfl ?_
      refine op_nil ?_
      refine ax_then ?_
      refine At.regs (L' := [(1, _), (2, _), (3, _), (4, _), (5, _), (10, _)]) (.cons rfl (.cons rfl (.cons rfl (.cons rfl (.cons rfl (.cons rfl (.nil _))))))) ?_
      refine cd_ret ?_
      refine ax_then_ret ?_
      refine rt_tmp (.inl rfl) Try.results8 rfl ?_
      exact fun w1 sw => ⟨rfl, sw.gives (.nil _)⟩
    ·
      refine st (ev_move rfl) rfl rfl rfl ?_
      refine st (ev_lss rfl rfl) rfl rfl rfl ?_
      refine st (ev_pick_f rfl rfl) rfl rfl rfl ?_
      refine st (ev_move rfl) rfl rfl rfl ?_
      refine at_split_if (i := 31) rfl (fun hg31 => ?_) (fun hg31 => ?_)
      ·
        refine st_skip rfl rfl rfl ?_
        refine st_skip rfl rfl rfl ?_
        refine st (ev_pick_t rfl rfl) rfl rfl rfl ?_
        refine st (ev_move rfl) rfl rfl rfl ?_
        refine st_skip rfl rfl rfl ?_
        refine st_skip rfl rfl rfl ?_
        refine st (ev_pick_t rfl rfl) rfl rfl rfl ?_
        refine op_nil ?_
        refine ax_then ?_
        refine At.regs (L' := [(1, _), (2, _), (3, _), (4, _), (5, _), (10, _), (38, _)]) (.cons rfl (.cons rfl (.cons rfl (.cons rfl (.cons rfl (.cons rfl (.cons rfl (.nil _)))))))) ?_
        refine cd_true rfl ?_
        refine cd_seq ?_
        refine cd_region ?_
        refine st (ev_assign rfl) rfl rfl rfl ?_
        refine op_nil ?_
        refine ax_then ?_
        refine At.regs (L' := [(1, _), (2, _), (3, _), (4, _), (5, _), (10, _)]) (.cons rfl (.cons rfl (.cons rfl (.cons rfl (.cons rfl (.cons rfl (.nil _))))))) ?_
        refine cd_ret ?_
        refine ax_then_ret ?_
        refine rt_tmp (.inl rfl) Try.results8 rfl ?_
        exact fun w1 sw => ⟨rfl, sw.gives (.nil _)⟩
      ·
        refine st (ev_move rfl) rfl rfl rfl ?_
        refine st (ev_gtr rfl rfl) rfl rfl rfl ?_
        refine st (ev_pick_f rfl rfl) rfl rfl rfl ?_
        refine st (ev_move rfl) rfl rfl rfl ?_
        refine at_split_if (i := 35) rfl (fun hg35 => ?_) (fun hg35 => ?_)
        ·
          refine st_skip rfl rfl rfl ?_
          refine st_skip rfl rfl rfl ?_
          refine st (ev_pick_t rfl rfl) rfl rfl rfl ?_
          refine op_nil ?_
          refine ax_then ?_
          refine At.regs (L' := [(1, _), (2, _), (3, _), (4, _), (5, _), (10, _), (38, _)]) (.cons rfl (.cons rfl (.cons rfl (.cons rfl (.cons rfl (.cons rfl (.cons rfl (.nil _)))))))) ?_
          refine cd_true rfl ?_
          refine cd_seq ?_
          refine cd_region ?_
          refine st (ev_assign rfl) rfl rfl rfl ?_
          refine op_nil ?_
          refine ax_then ?_
          refine At.regs (L' := [(1, _), (2, _), (3, _), (4, _), (5, _), (10, _)]) (.cons rfl (.cons rfl (.cons rfl (.cons rfl (.cons rfl (.cons rfl (.nil _))))))) ?_
          refine cd_ret ?_
          refine ax_then_ret ?_
          refine rt_tmp (.inl rfl) Try.results8 rfl ?_
          exact fun w1 sw => ⟨rfl, sw.gives (.nil _)⟩
        ·
          refine st (ev_move rfl) rfl rfl rfl ?_
          refine st (ev_eql rfl rfl) rfl rfl rfl ?_
          refine st (ev_pick_f rfl rfl) rfl rfl rfl ?_
          refine op_nil ?_
          refine ax_then ?_
          refine At.regs (L' := [(1, _), (2, _), (3, _), (4, _), (5, _), (10, _), (38, _)]) (.cons rfl (.cons rfl (.cons rfl (.cons rfl (.cons rfl (.cons rfl (.cons rfl (.nil _)))))))) ?_
          refine cd_if rfl (fun hc38 => ?_) (fun hc38 => ?_)
          ·
            refine cd_seq ?_
            refine cd_region ?_
            refine st (ev_assign rfl) rfl rfl rfl ?_
            refine op_nil ?_
            refine ax_then ?_
            refine At.regs (L' := [(1, _), (2, _), (3, _), (4, _), (5, _), (10, _)]) (.cons rfl (.cons rfl (.cons rfl (.cons rfl (.cons rfl (.cons rfl (.nil _))))))) ?_
            refine cd_ret ?_
            refine ax_then_ret ?_
            refine rt_tmp (.inl rfl) Try.results8 rfl ?_
            exact fun w1 sw => ⟨rfl, sw.gives (.nil _)⟩
          ·
            refine cd_skip ?_
            refine ax_then ?_
            refine At.regs (L' := [(1, _), (2, _), (3, _), (4, _), (5, _), (10, _)]) (.cons rfl (.cons rfl (.cons rfl (.cons rfl (.cons rfl (.cons rfl (.nil _))))))) ?_
            refine cd_seq ?_
            refine cd_region ?_
            refine st (ld_blk_all (h := 5) ty55 rfl rfl rfl (by first | omega | (simp only [List.length_append, List.length_cons, List.length_nil, List.length_set, List.length_replicate, List.length_take, List.length_drop, ints_length, wr_length, sha_len, node_len, recov_len, Ky.named_len, Ky.keyPub_len, Ky.hashOf_len] <;> omega) | rfl)) rfl rfl rfl ?_
            have ha : Ck.isN a := ⟨by omega, by omega⟩
            have ht : Ck.isN t := ⟨by omega, by omega⟩
            refine st_call has22 rfl (fun w1 sw => rn3 40 240 340 (cnew_any s w1 hl)) nil_all rfl rfl (fun x40 _ => ?_)
            obtain ⟨cb, kb, lv⟩ := x40
            dsimp only
            refine at_freeze_blk (h := 40) (H' := [(5, _), (240, _), (340, _)]) 24 rfl (.cons rfl (.cons rfl (.cons rfl (.nil _)))) rfl ?_
            refine st (ev_assign rfl) rfl rfl rfl ?_
            refine op_nil ?_
            refine ax_then ?_
            refine At.regs (L' := [(1, _), (2, _), (3, _), (4, _), (10, _), (11, _)]) (.cons rfl (.cons rfl (.cons rfl (.cons rfl (.cons rfl (.cons rfl (.nil _))))))) ?_
            refine cd_seq ?_
            refine cd_seq ?_
            refine cd_region ?_
            refine st (ev_move rfl) rfl rfl rfl ?_
            refine st (ev_eql_ptr_nil Try.underlying56 rfl rfl) rfl rfl rfl ?_
            refine op_nil ?_
            refine ax_then ?_
            refine At.regs (L' := [(1, _), (2, _), (3, _), (4, _), (10, _), (11, _), (42, _)]) (.cons rfl (.cons rfl (.cons rfl (.cons rfl (.cons rfl (.cons rfl (.cons rfl (.nil _)))))))) ?_
            refine cd_false rfl ?_
            refine cd_skip ?_
            refine ax_then ?_
            refine At.regs (L' := [(1, _), (2, _), (3, _), (4, _), (10, _), (11, _)]) (.cons rfl (.cons rfl (.cons rfl (.cons rfl (.cons rfl (.cons rfl (.nil _))))))) ?_
            refine cd_seq ?_
            refine cd_region ?_
            refine st (ev_move rfl) rfl rfl rfl ?_
            refine st (ev_move rfl) rfl rfl rfl ?_
            refine st (ev_move rfl) rfl rfl rfl ?_
            refine st_call has25 rfl (fun w1 sw => rn5 240 401 402 403 404 (attest_any cb kb lv s 0 (a) (t) w1 hl ha ht (by decide) (sw.blk_eq (h := 240) rfl) (sw.own_rd (h := 340) rfl) (sw.own_off (h := 240) (h' := 340) rfl rfl (by decide)) (sw.mem_lies (h := 24) rfl) (sw.off 24 _ 240 _ rfl rfl _ (by simp [Ent.ids])))) (mod_blk5 rfl) rfl rfl (fun x47 _ => ?_)
            obtain ⟨bv47, mv47, va47, vb47⟩ := x47
            dsimp only
            refine at_own_shape (h := 401) rfl (fun hsb47 => ?_)
            refine at_own_shape (h := 402) rfl (fun hsm47 => ?_)
            have hbl := Ck.body_len a t
            have hbp := Ck.body_pos a t
            refine st (ev_move rfl) rfl rfl rfl ?_
            refine st (ev_extract rfl rfl) rfl rfl rfl ?_
            refine st (ev_extract rfl rfl) rfl rfl rfl ?_
            refine st_alloc (h := 12) ty31 rfl rfl rfl (fun b12 => ?_)
            refine st_store_all 12 ty31 rfl rfl rfl rfl rfl (by intro u hu; simp at hu; rcases hu with rfl | rfl; exact hsb47.2; exact hsm47.2) rfl rfl ?_
            refine st (ev_assign rfl) rfl rfl rfl ?_
            refine op_nil ?_
            refine ax_then ?_
            refine At.regs (L' := [(1, _), (3, _), (4, _), (10, _), (11, _), (12, _), (13, _)]) (.cons rfl (.cons rfl (.cons rfl (.cons rfl (.cons rfl (.cons rfl (.cons rfl (.nil _)))))))) ?_
            refine cd_seq ?_
            refine cd_seq ?_
            refine cd_region ?_
            refine st (ev_move rfl) rfl rfl rfl ?_
            refine st (ev_neq rfl rfl) rfl rfl rfl ?_
            refine st (ev_move rfl) rfl rfl rfl ?_
            refine at_eq (i := 52) (v' := .bool false) rfl (by simp only [Value.bool.injEq, decide_eq_true_eq, decide_eq_false_iff_not]; exact fun h => h rfl) ?_
            refine st (ev_fieldAddr (b := _) Try.underlying31 (f := _) rfl ty28 (by decide) rfl) rfl rfl rfl ?_
            refine st (ld_blk1 (h := 12) ty28 rfl rfl rfl rfl) rfl rfl rfl ?_
            refine st (ev_len_owni (h := 401) Try.underlying28 rfl rfl) rfl rfl rfl ?_
            refine st (ev_eql rfl rfl) rfl rfl rfl ?_
            refine st (ev_pick_f rfl rfl) rfl rfl rfl ?_
            refine op_nil ?_
            refine ax_then ?_
            refine At.regs (L' := [(1, _), (3, _), (4, _), (10, _), (11, _), (12, _), (57, _)]) (.cons rfl (.cons rfl (.cons rfl (.cons rfl (.cons rfl (.cons rfl (.cons rfl (.nil _)))))))) ?_
            refine cd_if_f rfl (by omega) ?_
            refine cd_skip ?_
            refine ax_then ?_
            refine At.regs (L' := [(1, _), (3, _), (4, _), (10, _), (11, _), (12, _)]) (.cons rfl (.cons rfl (.cons rfl (.cons rfl (.cons rfl (.cons rfl (.nil _))))))) ?_
            refine cd_seq ?_
            refine cd_region ?_
            refine st (ev_move rfl) rfl rfl rfl ?_
            refine st_callv has24 rfl (fun w1 sw => cpub_any cb kb lv s (1) w1 hl (sw.mem_lies (h := 24) rfl) (lies_blk (sw.blk_eq (h := 240) rfl)) (sw.own_rd (h := 340) rfl)) rfl rfl ?_
            refine st_alloc (h := 14) ty55 rfl rfl rfl (fun b14 => ?_)
            refine st_store_all 14 ty55 rfl rfl rfl rfl (by first | omega | (simp only [List.length_append, List.length_cons, List.length_nil, List.length_set, List.length_replicate, List.length_take, List.length_drop, ints_length, wr_length, sha_len, node_len, recov_len, Ky.named_len, Ky.keyPub_len, Ky.hashOf_len] <;> omega) | rfl) (ints_one _ _) (by first | omega | (simp only [List.length_append, List.length_cons, List.length_nil, List.length_set, List.length_replicate, List.length_take, List.length_drop, ints_length, wr_length, sha_len, node_len, recov_len, Ky.named_len, Ky.keyPub_len, Ky.hashOf_len] <;> omega) | rfl) rfl ?_
            refine op_nil ?_
            refine ax_then ?_
            refine At.regs (L' := [(1, _), (3, _), (4, _), (10, _), (11, _), (12, _), (14, _)]) (.cons rfl (.cons rfl (.cons rfl (.cons rfl (.cons rfl (.cons rfl (.cons rfl (.nil _)))))))) ?_
            refine cd_seq ?_
            have hkl := Ky.keyPub_len s
            refine cd_region ?_
            refine st (ev_indexAddr_arrm 3 rfl Try.underlying55 ty5 rfl rfl (by decide) (by decide)) rfl rfl rfl ?_
            refine st (ld_blk1 (h := 14) ty5 rfl rfl rfl (ints_get _ _ _ (by first | omega | (simp only [List.length_append, List.length_cons, List.length_nil, List.length_set, List.length_replicate, List.length_take, List.length_drop, ints_length, wr_length, sha_len, node_len, recov_len, Ky.named_len, Ky.keyPub_len, Ky.hashOf_len] <;> omega) | rfl))) rfl rfl rfl ?_
            refine st (ev_xor rfl rfl) rfl rfl rfl ?_
            refine st (ev_indexAddr_arrm 3 rfl Try.underlying55 ty5 rfl rfl (by decide) (by decide)) rfl rfl rfl ?_
            refine st_store1 14 ty5 rfl rfl rfl rfl (by first | omega | (simp only [List.length_append, List.length_cons, List.length_nil, List.length_set, List.length_replicate, List.length_take, List.length_drop, ints_length, wr_length, sha_len, node_len, recov_len, Ky.named_len, Ky.keyPub_len, Ky.hashOf_len] <;> omega) | rfl) rfl ?_
            refine at_heq (i := 14) rfl (by rw [ints_set]) ?_
            obtain ⟨other, hot⟩ : ∃ o, o = (Ky.keyPub s).set 3 (ixor .u8 ((Ky.keyPub s).getD 3 0) 1) := ⟨_, rfl⟩
            have hne : Ky.keyPub s ≠ other := by rw [hot]; exact turn_ne (Ky.keyPub_len _) 3 (by decide) (hash_byt _)
            refine at_heq (i := 14) (v' := .blk b14 (.cells (ints .u8 (other)).toArray 55)) rfl (by rw [hot]) ?_
            have hol : other.length = 32 := by rw [hot, List.length_set]; exact Ky.keyPub_len _
            refine op_nil ?_
            refine ax_then ?_
            refine At.regs (L' := [(1, _), (3, _), (4, _), (10, _), (11, _), (12, _), (14, _)]) (.cons rfl (.cons rfl (.cons rfl (.cons rfl (.cons rfl (.cons rfl (.cons rfl (.nil _)))))))) ?_
            refine cd_seq ?_
            refine cd_region ?_
            refine st (ld_blk_all (h := 14) ty55 rfl rfl rfl (by first | omega | (simp only [List.length_append, List.length_cons, List.length_nil, List.length_set, List.length_replicate, List.length_take, List.length_drop, ints_length, wr_length, sha_len, node_len, recov_len, Ky.named_len, Ky.keyPub_len, Ky.hashOf_len] <;> omega) | rfl)) rfl rfl rfl ?_
            refine st (ld_blk_all (h := 12) ty31 rfl rfl rfl (by first | omega | (simp only [List.length_append, List.length_cons, List.length_nil, List.length_set, List.length_replicate, List.length_take, List.length_drop, ints_length, wr_length, sha_len, node_len, recov_len, Ky.named_len, Ky.keyPub_len, Ky.hashOf_len] <;> omega) | rfl)) rfl rfl rfl ?_
            refine st (ev_move rfl) rfl rfl rfl ?_
            refine st_callv has28 rfl (fun w1 sw => check_any (other) bv47 mv47 (Ck.body (a) (t)) [Ck.mk s (0) (Ck.body (a) (t)) va47 vb47] (a) w1 (by rw [hot, List.length_set]; exact Ky.keyPub_len _) (sw.own_rd (h := 401) rfl) (by have := Ck.body_len (a) (t); omega) (Ck.body_byt _ _) (Ck.mk_ok s (by decide) _ _ _) (by simp) (sw.own_rd (h := 402) rfl) (fun x hx => by
                obtain rfl := List.mem_singleton.1 hx
                exact ⟨sw.own_rd (h := 403) rfl, sw.own_rd (h := 404) rfl⟩)) rfl rfl ?_
            refine st (ev_move rfl) rfl rfl rfl ?_
            refine st (ev_extract rfl rfl) rfl rfl rfl ?_
            refine st (ev_extract rfl rfl) rfl rfl rfl ?_
            have hno : Ck.chk other (Ck.body a t) [Ck.mk s 0 (Ck.body a t) va47 vb47] a = (0, 4) := Ck.chk_no (fun x hx => by rw [List.mem_singleton.1 hx]; exact hne) a
            refine at_eq (i := 70) (v' := .int .i64 4) rfl (by rw [hno]; rfl) ?_
            refine st (ev_assign rfl) rfl rfl rfl ?_
            refine st (ev_assign rfl) rfl rfl rfl ?_
            refine op_nil ?_
            refine ax_then ?_
            refine At.regs (L' := [(1, _), (3, _), (4, _), (10, _), (11, _), (12, _), (16, _)]) (.cons rfl (.cons rfl (.cons rfl (.cons rfl (.cons rfl (.cons rfl (.cons rfl (.nil _)))))))) ?_
            refine cd_seq ?_
            refine at_freeze_blk (h := 12) (H' := [(5, _), (14, _), (240, _), (340, _), (401, _), (402, _), (403, _), (404, _)]) 25 rfl (.cons rfl (.cons rfl (.cons rfl (.cons rfl (.cons rfl (.cons rfl (.cons rfl (.cons rfl (.nil _))))))))) rfl ?_
            refine cd_open_tail 12 hmix (by decide +kernel) ?_
            refine qt (ev_fieldAddr (b := _) Try.underlying31 (f := _) rfl ty28 (by decide) rfl) rfl rfl rfl ?_
            refine qt (ld_mem1 (h := 25) ty28 rfl rfl rfl (Nat.zero_add _).symm rfl) rfl rfl rfl ?_
            refine qt (ev_move rfl) rfl rfl rfl ?_
            refine qt (ev_and rfl rfl) rfl rfl rfl ?_
            have hmk := mask_range at_ (m := 65535) (by decide) (by decide)
            refine qt (ev_fieldAddr (b := _) Try.underlying31 (f := _) rfl ty28 (by decide) rfl) rfl rfl rfl ?_
            refine qt (ld_mem1 (h := 25) ty28 rfl rfl rfl (Nat.zero_add _).symm rfl) rfl rfl rfl ?_
            refine qt (ev_len_owni (h := 401) Try.underlying28 rfl rfl) rfl rfl rfl ?_
            refine qt (ev_rem64 rfl rfl (by omega) (by omega)) rfl rfl rfl ?_
            obtain ⟨g, hg⟩ : ∃ g : Int, g = iand .i64 at_ 65535 % ((Ck.body a t).length : Nat) := ⟨_, rfl⟩
            have hg0 : 0 ≤ g ∧ g < ((Ck.body a t).length : Nat) := ⟨by rw [hg]; exact Int.emod_nonneg _ (by omega), by rw [hg]; exact Int.emod_lt_of_pos _ (by omega)⟩
            refine qt_eq (i := 78) (v' := .int .i64 g) rfl (by rw [hg]) ?_
            refine qt (ev_indexAddr_owni (h := 401) Try.underlying28 ty5 rfl rfl rfl (by omega) (by first | omega | (simp only [List.length_append, List.length_cons, List.length_nil, List.length_set, List.length_replicate, List.length_take, List.length_drop, ints_length, wr_length, sha_len, node_len, recov_len, Ky.named_len, Ky.keyPub_len, Ky.hashOf_len] <;> omega))) rfl rfl rfl ?_
            refine qt (ld_own1 (h := 401) ty5 rfl rfl rfl (ints_get _ _ _ (by first | omega | (simp only [List.length_append, List.length_cons, List.length_nil, List.length_set, List.length_replicate, List.length_take, List.length_drop, ints_length, wr_length, sha_len, node_len, recov_len, Ky.named_len, Ky.keyPub_len, Ky.hashOf_len] <;> omega) | rfl))) rfl rfl rfl ?_
            refine qt (ev_move rfl) rfl rfl rfl ?_
            refine qt (ev_xor rfl rfl) rfl rfl rfl ?_
            refine qt_end ?_
            refine st (ev_indexAddr_owni (h := 401) Try.underlying28 ty5 rfl rfl rfl (by omega) (by first | omega | (simp only [List.length_append, List.length_cons, List.length_nil, List.length_set, List.length_replicate, List.length_take, List.length_drop, ints_length, wr_length, sha_len, node_len, recov_len, Ky.named_len, Ky.keyPub_len, Ky.hashOf_len] <;> omega))) rfl rfl rfl ?_
            refine st_store_own (vl := ints .u8 [_]) 401 ty5 rfl rfl rfl rfl (by first | omega | (simp only [List.length_append, List.length_cons, List.length_nil, List.length_set, List.length_replicate, List.length_take, List.length_drop, ints_length, wr_length, sha_len, node_len, recov_len, Ky.named_len, Ky.keyPub_len, Ky.hashOf_len] <;> omega) | rfl) (ints_one _ _) (by first | omega | (simp only [List.length_append, List.length_cons, List.length_nil, List.length_set, List.length_replicate, List.length_take, List.length_drop, ints_length, wr_length, sha_len, node_len, recov_len, Ky.named_len, Ky.keyPub_len, Ky.hashOf_len] <;> omega) | rfl) (by decide) rfl ?_
            refine at_heq (i := 401) rfl (by rw [ints_wr]) ?_
            obtain ⟨z, hz⟩ : ∃ z, z = (Ck.body a t).take g.toNat ++ [ixor .u8 ((Ck.body a t).getD g.toNat 0) y] ++ (Ck.body a t).drop (g.toNat + 1) := ⟨_, rfl⟩
            refine at_heq (i := 401) (v' := .own (bv47) 5 1 (ints .u8 (z))) rfl (by rw [hz]; rfl) ?_
            have hzl : z.length = (Ck.body a t).length := by rw [hz]; simp; omega
            have hzb : Byt z := by rw [hz]; exact byt_turn (Ck.body_byt a t) _ _
            refine op_nil ?_
            refine ax_then ?_
            refine At.regs (L' := [(1, _), (10, _), (11, _), (12, _), (16, _)]) (.cons rfl (.cons rfl (.cons rfl (.cons rfl (.cons rfl (.nil _)))))) ?_
            refine cd_seq ?_
            refine cd_mix hmix ?_
            refine mx (i := 0) rfl (by decide +kernel) (by decide +kernel) (by decide +kernel) rfl (fun w0 => ev_move rfl) rfl rfl (Sub.refl _) ?_
            refine mx (i := 2) rfl (by decide +kernel) (by decide +kernel) (by decide +kernel) rfl (fun w0 => ld_mem_all (h := 25) ty31 rfl rfl rfl rfl) rfl rfl (Sub.refl _) ?_
            refine mx (i := 3) rfl (by decide +kernel) (by decide +kernel) (by decide +kernel) rfl (fun w0 => ev_move rfl) rfl rfl (Sub.refl _) ?_
            refine mx_one (i := 1) (by decide +kernel) (Sub.refl _) ?_
            refine wo (i := 1) rfl ?_
            refine st_callv has24 rfl (fun w1 sw => cpub_any cb kb lv s (1) w1 hl (sw.mem_lies (h := 24) rfl) (lies_blk (sw.blk_eq (h := 240) rfl)) (sw.own_rd (h := 340) rfl)) rfl rfl ?_
            refine op_nil ?_
            refine ax_then ?_
            refine mx_one (i := 4) (by decide +kernel) (Sub.refl _) ?_
            refine wo (i := 4) rfl ?_
            refine st_callv has28 rfl (fun w1 sw => check_any (Ky.keyPub s) bv47 mv47 (z) [Ck.mk s (0) (Ck.body (a) (t)) va47 vb47] (a) w1 (Ky.keyPub_len _) (sw.own_rd (h := 401) rfl) (by have := Ck.body_len a t; omega) hzb (Ck.mk_ok s (by decide) _ _ _) (by simp) (sw.own_rd (h := 402) rfl) (fun x hx => by
                obtain rfl := List.mem_singleton.1 hx
                exact ⟨sw.own_rd (h := 403) rfl, sw.own_rd (h := 404) rfl⟩)) rfl rfl ?_
            refine op_nil ?_
            refine ax_then ?_
            refine mx (i := 5) rfl (by decide +kernel) (by decide +kernel) (by decide +kernel) rfl (fun w0 => ev_move rfl) rfl rfl (Sub.refl _) ?_
            refine mx (i := 6) rfl (by decide +kernel) (by decide +kernel) (by decide +kernel) rfl (fun w0 => ev_extract rfl rfl) rfl rfl (Sub.refl _) ?_
            refine mx (i := 7) rfl (by decide +kernel) (by decide +kernel) (by decide +kernel) rfl (fun w0 => ev_extract rfl rfl) rfl rfl (Sub.refl _) ?_
            refine mx (i := 8) rfl (by decide +kernel) (by decide +kernel) (by decide +kernel) rfl (fun w0 => ev_assign rfl) rfl rfl (Sub.refl _) ?_
            refine mx (i := 9) rfl (by decide +kernel) (by decide +kernel) (by decide +kernel) rfl (fun w0 => ev_assign rfl) rfl rfl (Sub.refl _) ?_
            refine mx_done (by decide +kernel) (Sub.refl _) ?_
            refine ax_then ?_
            refine At.regs (L' := [(1, _), (10, _), (11, _), (12, _), (16, _), (18, _)]) (.cons rfl (.cons rfl (.cons rfl (.cons rfl (.cons rfl (.cons rfl (.nil _))))))) ?_
            refine cd_seq ?_
            refine cd_mix hmix ?_
            refine mx (i := 0) rfl (by decide +kernel) (by decide +kernel) (by decide +kernel) rfl (fun w0 => ev_move rfl) rfl rfl (Sub.refl _) ?_
            refine mx (i := 2) rfl (by decide +kernel) (by decide +kernel) (by decide +kernel) rfl (fun w0 => ld_mem_all (h := 25) ty31 rfl rfl rfl rfl) rfl rfl (Sub.refl _) ?_
            refine mx (i := 3) rfl (by decide +kernel) (by decide +kernel) (by decide +kernel) rfl (fun w0 => ev_move rfl) rfl rfl (Sub.refl _) ?_
            refine mx_one (i := 1) (by decide +kernel) (Sub.refl _) ?_
            refine wo (i := 1) rfl ?_
            refine st_callv has24 rfl (fun w1 sw => cpub_any cb kb lv s (1) w1 hl (sw.mem_lies (h := 24) rfl) (lies_blk (sw.blk_eq (h := 240) rfl)) (sw.own_rd (h := 340) rfl)) rfl rfl ?_
            refine op_nil ?_
            refine ax_then ?_
            refine mx_one (i := 4) (by decide +kernel) (Sub.refl _) ?_
            refine wo (i := 4) rfl ?_
            refine st_callv has29 rfl (fun w1 sw => qcheck_any (Ky.keyPub s) bv47 mv47 (z) [Ck.mk s (0) (Ck.body (a) (t)) va47 vb47] (a) w1 (Ky.keyPub_len _) (sw.own_rd (h := 401) rfl) (by have := Ck.body_len a t; omega) hzb (Ck.mk_ok s (by decide) _ _ _) (by simp) (sw.own_rd (h := 402) rfl) (fun x hx => by
                obtain rfl := List.mem_singleton.1 hx
                exact ⟨sw.own_rd (h := 403) rfl, sw.own_rd (h := 404) rfl⟩)) rfl rfl ?_
            refine op_nil ?_
            refine ax_then ?_
            refine mx (i := 5) rfl (by decide +kernel) (by decide +kernel) (by decide +kernel) rfl (fun w0 => ev_move rfl) rfl rfl (Sub.refl _) ?_
            refine mx (i := 6) rfl (by decide +kernel) (by decide +kernel) (by decide +kernel) rfl (fun w0 => ev_extract rfl rfl) rfl rfl (Sub.refl _) ?_
            refine mx (i := 7) rfl (by decide +kernel) (by decide +kernel) (by decide +kernel) rfl (fun w0 => ev_extract rfl rfl) rfl rfl (Sub.refl _) ?_
            refine mx (i := 8) rfl (by decide +kernel) (by decide +kernel) (by decide +kernel) rfl (fun w0 => ev_assign rfl) rfl rfl (Sub.refl _) ?_
            refine mx (i := 9) rfl (by decide +kernel) (by decide +kernel) (by decide +kernel) rfl (fun w0 => ev_assign rfl) rfl rfl (Sub.refl _) ?_
            refine mx_done (by decide +kernel) (Sub.refl _) ?_
            refine ax_then ?_
            refine At.regs (L' := [(10, _), (16, _), (18, _), (20, _)]) (.cons rfl (.cons rfl (.cons rfl (.cons rfl (.nil _))))) ?_
            refine cd_seq ?_
            refine cd_region ?_
            refine st (ev_move rfl) rfl rfl rfl ?_
            refine st (ev_eql rfl rfl) rfl rfl rfl ?_
            refine st (ev_move rfl) rfl rfl rfl ?_
            refine at_eq (i := 102) (v' := .bool true) rfl (by rfl) ?_
            refine st (ev_move rfl) rfl rfl rfl ?_
            refine st (ev_eql rfl rfl) rfl rfl rfl ?_
            refine st (ev_move rfl) rfl rfl rfl ?_
            refine at_split_if (i := 105) rfl (fun hg105 => ?_) (fun hg105 => ?_)
            ·
              refine st_skip rfl rfl rfl ?_
              refine st_skip rfl rfl rfl ?_
              refine st (ev_pick_t rfl rfl) rfl rfl rfl ?_
              refine st (ev_pick_t rfl rfl) rfl rfl rfl ?_
              refine st (ev_move rfl) rfl rfl rfl ?_
              refine st_callv has30 rfl (fun w1 sw => known18_any w1) rfl rfl ?_
              refine st (ev_pick_t rfl rfl) rfl rfl rfl ?_
              refine st (ev_assign rfl) rfl rfl rfl ?_
              refine op_nil ?_
              refine ax_then ?_
              refine At.regs (L' := [(10, _)]) (.cons rfl (.nil _)) ?_
              refine cd_ret ?_
              refine rt_tmp (.inl rfl) Try.results8 rfl ?_
              exact fun w1 sw => ⟨rfl, sw.gives (.nil _)⟩
            ·
              refine st (ev_move rfl) rfl rfl rfl ?_
              refine st (ev_neq rfl rfl) rfl rfl rfl ?_
              refine st (ev_pick_f rfl rfl) rfl rfl rfl ?_
              refine st (ev_pick_t rfl rfl) rfl rfl rfl ?_
              refine st (ev_move rfl) rfl rfl rfl ?_
              refine at_eq (i := 110) (v' := .bool true) rfl (by simp only [Value.bool.injEq, decide_eq_true_eq, decide_eq_false_iff_not]; exact hg105) ?_
              refine st_callv has30 rfl (fun w1 sw => known18_any w1) rfl rfl ?_
              refine st (ev_pick_t rfl rfl) rfl rfl rfl ?_
              refine st (ev_assign rfl) rfl rfl rfl ?_
              refine op_nil ?_
              refine ax_then ?_
              refine At.regs (L' := [(10, _)]) (.cons rfl (.nil _)) ?_
              refine cd_ret ?_
              refine rt_tmp (.inl rfl) Try.results8 rfl ?_
              exact fun w1 sw => ⟨rfl, sw.gives (.nil _)⟩
end Go.Proofs.Ytgfnmolbagilmaa
