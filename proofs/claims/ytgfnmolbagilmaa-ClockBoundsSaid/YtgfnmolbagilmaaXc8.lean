/- The statement's proof, part 8: what its walks and its plain laws need. -/
import Derived.Test.YtgfnmolbagilmaaRows
import Derived.Tactics
import Derived.Deep.Quiet
import Derived.StillTail
import Derived.Laws.World
import Derived.Laws.Sem
import Derived.Laws.Entries
import Derived.Below
import Derived.Deep.LoopGhost
import Derived.Laws.BytesString
import Derived.Laws.IdiomStrings
import Derived.KernelRfl
import Derived.Carry
import Derived.OpenShut
import Derived.ProofKit
import Derived.ChangeSame
import Derived.HandedShaped
import Derived.SizedLaws
import Derived.Test.YtgfnmolbagilmaaProg
import Derived.Laws.Strings
import Derived.Test.YtgfnmolbagilmaaXc7
namespace Go.Proofs.Ytgfnmolbagilmaa
open Go Go.RowKit Fw
open Sha
open Ots
open Mk
set_option linter.unusedVariables false
set_option linter.unusedSimpArgs false
set_option maxRecDepth 20000 in
set_option maxHeartbeats 16000000 in
theorem clockPlays_any (s : List Int) (p : Value) (ns : List Int) (t o : Int) (w : World) (hl : s.length = 32) (hnl : ns.length ≤ 140737488351232) (h : Rd w p 1 (ints .i64 ns)) : Calls Try.prog 7 #[.agg (ints .u8 (s)).toArray, p, .int .i64 t, .int .i64 o] w (PostV w (.bool true)) := by
  refine calls_at (vs := [.agg (ints .u8 (s)).toArray, p, .int .i64 t, .int .i64 o]) (X := []) (H := []) (F := [(20, .sl p 1 (ints .i64 ns))]) 157 Try.func7 rfl rfl rfl (Sat.rd0 20 h) ?_
  refine cd_seq ?_
  refine cd_region ?_
  refine st_box (h := 4) rfl rfl rfl rfl (fun b4 => ?_)
  refine st (ev_assign rfl) rfl rfl rfl ?_
  refine op_nil ?_
  refine ax_then ?_
  refine At.regs (L' := [(1, _), (2, _), (3, _), (4, _), (8, _)]) (.cons rfl (.cons rfl (.cons rfl (.cons rfl (.cons rfl (.nil _)))))) ?_
  refine cd_seq ?_
  refine cd_seq ?_
  refine cd_region ?_
  refine st (ev_move rfl) rfl rfl rfl ?_
  refine st (ev_len_rdi (h := 20) Try.underlying49 rfl rfl) rfl rfl rfl ?_
  refine st (ev_gtr rfl rfl) rfl rfl rfl ?_
  refine op_nil ?_
  refine ax_then ?_
  refine At.regs (L' := [(1, _), (2, _), (3, _), (4, _), (8, _), (26, _)]) (.cons rfl (.cons rfl (.cons rfl (.cons rfl (.cons rfl (.cons rfl (.nil _))))))) ?_
  refine cd_if rfl (fun hc26 => ?_) (fun hc26 => ?_)
  ·
    refine cd_seq ?_
    refine cd_region ?_
    refine st (ev_assign rfl) rfl rfl rfl ?_
    refine op_nil ?_
    refine ax_then ?_
    refine At.regs (L' := [(1, _), (2, _), (3, _), (4, _), (8, _)]) (.cons rfl (.cons rfl (.cons rfl (.cons rfl (.cons rfl (.nil _)))))) ?_
    refine cd_ret ?_
    refine ax_then_ret ?_
    refine rt_tmp (.inl rfl) Try.results7 rfl ?_
    exact fun w1 sw => ⟨rfl, sw.gives (.nil _)⟩
  ·
    refine cd_skip ?_
    refine ax_then ?_
    refine At.regs (L' := [(1, _), (2, _), (3, _), (4, _), (8, _)]) (.cons rfl (.cons rfl (.cons rfl (.cons rfl (.cons rfl (.nil _)))))) ?_
    refine cd_seq ?_
    refine at_freeze_blk (h := 4) (H' := []) 5 rfl (.nil _) rfl ?_
    refine cd_mix hmix ?_
    refine mx (i := 0) rfl (by decide +kernel) (by decide +kernel) (by decide +kernel) rfl (fun w0 => ld_mem_all (h := 5) ty55 rfl rfl rfl (by rw [ints_length]; exact hl)) rfl rfl (Sub.refl _) ?_
    refine mx (i := 2) rfl (by decide +kernel) (by decide +kernel) (by decide +kernel) rfl (fun w0 => ld_mem_all (h := 5) ty55 rfl rfl rfl (by rw [ints_length]; exact hl)) rfl rfl (Sub.refl _) ?_
    refine mx_one (i := 1) (by decide +kernel) (Sub.refl _) ?_
    refine wo (i := 1) rfl ?_
    refine st_call has22 rfl (fun w1 sw => rn3 28 228 328 (cnew_any s w1 hl)) nil_all rfl rfl (fun x28 _ => ?_)
    obtain ⟨cb, kb, lv⟩ := x28
    dsimp only
    refine op_nil ?_
    refine ax_then ?_
    refine mx_one (i := 3) (by decide +kernel) (Sub.refl _) ?_
    refine wo (i := 3) rfl ?_
    refine st_call has23 rfl (fun w1 sw => rn3 30 230 330 (qcnew_any s w1 hl)) nil_all rfl rfl (fun x30 _ => ?_)
    obtain ⟨cbq, kbq, lvq⟩ := x30
    dsimp only
    refine op_nil ?_
    refine ax_then ?_
    refine mx (i := 4) rfl (by decide +kernel) (by decide +kernel) (by decide +kernel) rfl (fun w0 => ev_assign rfl) rfl rfl (Sub.refl _) ?_
    refine mx (i := 5) rfl (by decide +kernel) (by decide +kernel) (by decide +kernel) rfl (fun w0 => ev_assign rfl) rfl rfl (Sub.refl _) ?_
    refine mx_done (by decide +kernel) (Sub.refl _) ?_
    refine ax_then ?_
    refine At.regs (L' := [(1, _), (2, _), (3, _), (8, _), (9, _), (10, _)]) (.cons rfl (.cons rfl (.cons rfl (.cons rfl (.cons rfl (.cons rfl (.nil _))))))) ?_
    refine cd_seq ?_
    refine cd_seq ?_
    refine at_freeze_blk (h := 28) (H' := [(30, _), (228, _), (328, _), (230, _), (330, _)]) 24 rfl (.cons rfl (.cons rfl (.cons rfl (.cons rfl (.cons rfl (.nil _)))))) rfl ?_
    refine at_freeze_blk (h := 30) (H' := [(228, _), (328, _), (230, _), (330, _)]) 26 rfl (.cons rfl (.cons rfl (.cons rfl (.cons rfl (.nil _))))) rfl ?_
    refine cd_mixp [(300, .mem kbq 0 (Ky.rcells s lvq (Ky.keyPub s) ((0 : Nat) : Int))), (26, .mem cbq 0 [.pointer (some ⟨kbq, 0, none⟩)]), (24, .mem cb 0 [.pointer (some ⟨kb, 0, none⟩)])] hmix ?_
    refine mxp (i := 0) rfl (by decide +kernel) (by decide +kernel) (by decide +kernel) rfl (fun w0 => ev_move rfl) rfl rfl (fun w sw => CF.cons (lies_blk (sw.blk_eq (h := 230) rfl)) (sw.cf (.cons rfl (.cons rfl (.nil _))))) ?_
    refine mxp (i := 1) rfl (by decide +kernel) (by decide +kernel) (by decide +kernel) rfl (fun w0 => ev_eql_ptr_nil Try.underlying56 rfl rfl) rfl rfl (fun w sw => CF.cons (lies_blk (sw.blk_eq (h := 230) rfl)) (sw.cf (.cons rfl (.cons rfl (.nil _))))) ?_
    refine mxp (i := 2) rfl (by decide +kernel) (by decide +kernel) (by decide +kernel) rfl (fun w0 => ev_move rfl) rfl rfl (fun w sw => CF.cons (lies_blk (sw.blk_eq (h := 230) rfl)) (sw.cf (.cons rfl (.cons rfl (.nil _))))) ?_
    refine mxp (i := 3) rfl (by decide +kernel) (by decide +kernel) (by decide +kernel) rfl (fun w0 => ev_move rfl) rfl rfl (fun w sw => CF.cons (lies_blk (sw.blk_eq (h := 230) rfl)) (sw.cf (.cons rfl (.cons rfl (.nil _))))) ?_
    refine mxp (i := 5) rfl (by decide +kernel) (by decide +kernel) (by decide +kernel) rfl (fun w0 => ev_move rfl) rfl rfl (fun w sw => CF.cons (lies_blk (sw.blk_eq (h := 230) rfl)) (sw.cf (.cons rfl (.cons rfl (.nil _))))) ?_
    refine mxp (i := 6) rfl (by decide +kernel) (by decide +kernel) (by decide +kernel) rfl (fun w0 => ev_nilCheck rfl) rfl rfl (fun w sw => CF.cons (lies_blk (sw.blk_eq (h := 230) rfl)) (sw.cf (.cons rfl (.cons rfl (.nil _))))) ?_
    refine mxp (i := 7) rfl (by decide +kernel) (by decide +kernel) (by decide +kernel) rfl (fun w0 => ev_fieldAddr (b := _) Try.underlying65 (f := _) rfl ty63 (by decide) rfl) rfl rfl (fun w sw => CF.cons (lies_blk (sw.blk_eq (h := 230) rfl)) (sw.cf (.cons rfl (.cons rfl (.nil _))))) ?_
    refine mxp (i := 8) rfl (by decide +kernel) (by decide +kernel) (by decide +kernel) rfl (fun w0 => ld_mem1 (h := 26) ty63 rfl rfl rfl (Nat.zero_add _).symm rfl) rfl rfl (fun w sw => CF.cons (lies_blk (sw.blk_eq (h := 230) rfl)) (sw.cf (.cons rfl (.cons rfl (.nil _))))) ?_
    refine mxp (i := 9) rfl (by decide +kernel) (by decide +kernel) (by decide +kernel) rfl (fun w0 => ev_nilCheck rfl) rfl rfl (fun w sw => CF.cons (lies_blk (sw.blk_eq (h := 230) rfl)) (sw.cf (.cons rfl (.cons rfl (.nil _))))) ?_
    refine mxp (i := 10) rfl (by decide +kernel) (by decide +kernel) (by decide +kernel) rfl (fun w0 => ev_fieldAddr (b := _) Try.underlying62 (f := _) rfl ty55 (by decide) rfl) rfl rfl (fun w sw => CF.cons (lies_blk (sw.blk_eq (h := 230) rfl)) (sw.cf (.cons rfl (.cons rfl (.nil _))))) ?_
    refine mxp (i := 11) rfl (by decide +kernel) (by decide +kernel) (by decide +kernel) rfl (fun w0 => ld_mem (h := 300) (k := 33) ty55 rfl rfl rfl rfl (by rw [Ky.rcells_len hl (Ky.keyPub_len _)]; decide)) rfl rfl (fun w sw => CF.cons (lies_blk (sw.blk_eq (h := 230) rfl)) (sw.cf (.cons rfl (.cons rfl (.nil _))))) ?_
    refine at_eq (i := 42) (v' := .agg (ints .u8 (Ky.keyPub s)).toArray) rfl (congrArg (fun x => Value.agg (List.toArray x)) (Ky.rcells_pub hl (Ky.keyPub_len _) _ _)) ?_
    refine mxp_one (i := 4) (by decide +kernel) (fun w sw => CF.cons (lies_blk (sw.blk_eq (h := 230) rfl)) (sw.cf (.cons rfl (.cons rfl (.nil _))))) ?_
    refine wo (i := 4) rfl ?_
    refine st_callv has24 rfl (fun w1 sw => cpub_any cb kb lv s (0) w1 hl (sw.mem_lies (h := 24) rfl) (lies_blk (sw.blk_eq (h := 228) rfl)) (sw.own_rd (h := 328) rfl)) rfl rfl ?_
    refine op_nil ?_
    refine ax_then ?_
    refine mxp (i := 12) rfl (by decide +kernel) (by decide +kernel) (by decide +kernel) rfl (fun w0 => ev_neq_arr Try.underlying55 ty5 eqg55 rfl rfl (by first | omega | (simp only [List.length_append, List.length_cons, List.length_nil, List.length_set, List.length_replicate, List.length_take, List.length_drop, ints_length, wr_length, sha_len, node_len, recov_len, Ky.named_len, Ky.keyPub_len, Ky.hashOf_len] <;> omega) | rfl) (by first | omega | (simp only [List.length_append, List.length_cons, List.length_nil, List.length_set, List.length_replicate, List.length_take, List.length_drop, ints_length, wr_length, sha_len, node_len, recov_len, Ky.named_len, Ky.keyPub_len, Ky.hashOf_len] <;> omega) | rfl)) rfl rfl (fun w sw => CF.cons (lies_blk (sw.blk_eq (h := 230) rfl)) (sw.cf (.cons rfl (.cons rfl (.nil _))))) ?_
    refine mxp (i := 13) rfl (by decide +kernel) (by decide +kernel) (by decide +kernel) rfl (fun w0 => ev_pick_f rfl rfl) rfl rfl (fun w sw => CF.cons (lies_blk (sw.blk_eq (h := 230) rfl)) (sw.cf (.cons rfl (.cons rfl (.nil _))))) ?_
    refine mxp_done (by decide +kernel) (fun w sw => CF.cons (lies_blk (sw.blk_eq (h := 230) rfl)) (sw.cf (.cons rfl (.cons rfl (.nil _))))) ?_
    refine ax_then ?_
    refine At.regs (L' := [(1, _), (2, _), (3, _), (8, _), (9, _), (10, _), (44, _)]) (.cons rfl (.cons rfl (.cons rfl (.cons rfl (.cons rfl (.cons rfl (.cons rfl (.nil _)))))))) ?_
    refine cd_if_f rfl (fun h => h rfl) ?_
    refine cd_skip ?_
    refine ax_then ?_
    refine At.regs (L' := [(1, _), (2, _), (3, _), (8, _), (9, _), (10, _)]) (.cons rfl (.cons rfl (.cons rfl (.cons rfl (.cons rfl (.cons rfl (.nil _))))))) ?_
    refine cd_seq ?_
    refine cd_seq ?_
    refine cd_region ?_
    refine st (ev_assign rfl) rfl rfl rfl ?_
    refine op_nil ?_
    refine ax_then ?_
    refine At.regs (L' := [(1, _), (2, _), (3, _), (8, _), (9, _), (10, _), (11, _)]) (.cons rfl (.cons rfl (.cons rfl (.cons rfl (.cons rfl (.cons rfl (.cons rfl (.nil _)))))))) ?_
    refine cd_block ?_
    refine cd_loop (ι := Nat × Nat) (fun x => x.1 ≤ ns.length ∧ x.2 ≤ 16) (fun x => ns.length - x.1)
        (fun x => [(1, p), (2, .int .i64 t), (3, .int .i64 o), (9, .pointer (some ⟨cb, 0, none⟩)), (10, .pointer (some ⟨cbq, 0, none⟩)), (11, .int .i64 (x.1 : Int))])
        (fun x => [(228, .blk (kb) (.cells (Ky.cells s lv ((x.2 : Nat) : Int)).toArray 133)), (230, .blk (kbq) (.cells (Ky.rcells s lvq (Ky.keyPub s) ((x.2 : Nat) : Int)).toArray 62)), (328, .own (lv) 55 32 (flat (Ky.leaves s 16))), (330, .own (lvq) 55 32 (flat (Ky.leaves s 16)))])
        (fun x => [(20, .sl p 1 (ints .i64 ns)), (24, .mem cb 0 [.pointer (some ⟨kb, 0, none⟩)]), (26, .mem cbq 0 [.pointer (some ⟨kbq, 0, none⟩)])])
        (0, 0) (⟨by omega, by decide⟩) (.cons rfl (.cons rfl (.cons rfl (.cons rfl (.cons rfl (.cons rfl (.nil _))))))) (.cons rfl (.cons rfl (.cons rfl (.cons rfl (.nil _))))) (.cons rfl (.cons rfl (.cons rfl (.nil _)))) (fun x hi => ?_)
    obtain ⟨i, n⟩ := x
    dsimp only at hi ⊢
    have hi1 := hi.1
    have hi2 := hi.2
    refine cd_seq ?_
    refine cd_seq ?_
    refine cd_region ?_
    refine st (ev_move rfl) rfl rfl rfl ?_
    refine st (ev_move rfl) rfl rfl rfl ?_
    refine st (ev_len_rdi (h := 20) Try.underlying49 rfl rfl) rfl rfl rfl ?_
    refine st (ev_lss rfl rfl) rfl rfl rfl ?_
    refine op_nil ?_
    refine ax_then ?_
    refine At.regs (L' := [(1, _), (2, _), (3, _), (9, _), (10, _), (11, _), (45, _), (46, _), (47, _), (48, _)]) (.cons rfl (.cons rfl (.cons rfl (.cons rfl (.cons rfl (.cons rfl (.cons rfl (.cons rfl (.cons rfl (.cons rfl (.nil _))))))))))) ?_
    refine cd_if rfl (fun hc48 => ?_) (fun hc48 => ?_)
    ·
      refine cd_skip ?_
      refine ax_then ?_
      refine At.regs (L' := [(1, _), (2, _), (3, _), (9, _), (10, _), (11, _), (45, _), (46, _), (47, _), (48, _)]) (.cons rfl (.cons rfl (.cons rfl (.cons rfl (.cons rfl (.cons rfl (.cons rfl (.cons rfl (.cons rfl (.cons rfl (.nil _))))))))))) ?_
      refine cd_seq ?_
      refine cd_block ?_
      refine cd_seq ?_
      refine cd_region ?_
      refine st (ev_move rfl) rfl rfl rfl ?_
      refine st (ev_move rfl) rfl rfl rfl ?_
      refine st (ev_move rfl) rfl rfl rfl ?_
      refine st (ev_indexAddr_rdi (h := 20) Try.underlying49 ty3 rfl rfl rfl (by omega) (by first | omega | (simp only [List.length_append, List.length_cons, List.length_nil, List.length_set, List.length_replicate, List.length_take, List.length_drop, ints_length, wr_length, sha_len, node_len, recov_len, Ky.named_len, Ky.keyPub_len, Ky.hashOf_len] <;> omega))) rfl rfl rfl ?_
      refine st (ld_rd1 (h := 20) ty3 rfl rfl rfl (ints_get _ _ _ (by first | omega | (simp only [List.length_append, List.length_cons, List.length_nil, List.length_set, List.length_replicate, List.length_take, List.length_drop, ints_length, wr_length, sha_len, node_len, recov_len, Ky.named_len, Ky.keyPub_len, Ky.hashOf_len] <;> omega) | rfl))) rfl rfl rfl ?_
      refine at_eq (i := 56) (v' := .int .i64 (ns.getD i 0)) rfl (by rw [Int.toNat_natCast]) ?_
      refine st (ev_move rfl) rfl rfl rfl ?_
      refine st_call has25 rfl (fun w1 sw => rn5 228 401 402 403 404 (attestG_any cb kb lv s n ((ns.getD i 0)) (t) w1 hl (sw.blk_eq (h := 228) rfl) (sw.own_rd (h := 328) rfl) (sw.own_off (h := 228) (h' := 328) rfl rfl (by decide)) (sw.mem_lies (h := 24) rfl) (sw.off 24 _ 228 _ rfl rfl _ (by simp [Ent.ids])))) (mod_blk5 rfl) rfl rfl (fun x58 _ => ?_)
      obtain ⟨bv58, mv58, va58, vb58⟩ := x58
      dsimp only
      refine at_own_shape (h := 401) rfl (fun hsb58 => ?_)
      refine at_own_shape (h := 402) rfl (fun hsm58 => ?_)
      refine st (ev_move rfl) rfl rfl rfl ?_
      refine st (ev_extract rfl rfl) rfl rfl rfl ?_
      refine st (ev_extract rfl rfl) rfl rfl rfl ?_
      refine st_alloc (h := 12) ty31 rfl rfl rfl (fun b12 => ?_)
      refine st_store_all 12 ty31 rfl rfl rfl rfl rfl (by intro u hu; simp at hu; rcases hu with rfl | rfl; exact hsb58.2; exact hsm58.2) rfl rfl ?_
      refine st (ev_assign rfl) rfl rfl rfl ?_
      refine op_nil ?_
      refine ax_then ?_
      refine At.regs (L' := [(1, _), (2, _), (3, _), (9, _), (10, _), (11, _), (12, _), (13, _), (45, _), (46, _), (47, _), (48, _), (51, _), (52, _), (53, _), (54, _), (55, _), (56, _), (57, _), (58, _), (59, _), (60, _)]) (.cons rfl (.cons rfl (.cons rfl (.cons rfl (.cons rfl (.cons rfl (.cons rfl (.cons rfl (.cons rfl (.cons rfl (.cons rfl (.cons rfl (.cons rfl (.cons rfl (.cons rfl (.cons rfl (.cons rfl (.cons rfl (.cons rfl (.cons rfl (.cons rfl (.cons rfl (.nil _))))))))))))))))))))))) ?_
      refine cd_seq ?_
      refine cd_region ?_
      refine st (ev_move rfl) rfl rfl rfl ?_
      refine st (ev_move rfl) rfl rfl rfl ?_
      refine st (ev_move rfl) rfl rfl rfl ?_
      refine st (ev_indexAddr_rdi (h := 20) Try.underlying49 ty3 rfl rfl rfl (by omega) (by first | omega | (simp only [List.length_append, List.length_cons, List.length_nil, List.length_set, List.length_replicate, List.length_take, List.length_drop, ints_length, wr_length, sha_len, node_len, recov_len, Ky.named_len, Ky.keyPub_len, Ky.hashOf_len] <;> omega))) rfl rfl rfl ?_
      refine st (ld_rd1 (h := 20) ty3 rfl rfl rfl (ints_get _ _ _ (by first | omega | (simp only [List.length_append, List.length_cons, List.length_nil, List.length_set, List.length_replicate, List.length_take, List.length_drop, ints_length, wr_length, sha_len, node_len, recov_len, Ky.named_len, Ky.keyPub_len, Ky.hashOf_len] <;> omega) | rfl))) rfl rfl rfl ?_
      refine at_eq (i := 66) (v' := .int .i64 (ns.getD i 0)) rfl (by rw [Int.toNat_natCast]) ?_
      refine st (ev_move rfl) rfl rfl rfl ?_
      refine st_call has26 rfl (fun w1 sw => rn5 230 411 412 413 414 (qattestG_any cbq kbq lvq s n ((ns.getD i 0)) (t) w1 hl (sw.blk_eq (h := 230) rfl) (sw.own_rd (h := 330) rfl) (sw.own_off (h := 230) (h' := 330) rfl rfl (by decide)) (sw.mem_lies (h := 26) rfl) (sw.off 26 _ 230 _ rfl rfl _ (by simp [Ent.ids])))) (mod_blk5 rfl) rfl rfl (fun x68 _ => ?_)
      obtain ⟨bv68, mv68, va68, vb68⟩ := x68
      dsimp only
      refine at_own_shape (h := 411) rfl (fun hsb68 => ?_)
      refine at_own_shape (h := 412) rfl (fun hsm68 => ?_)
      refine st (ev_move rfl) rfl rfl rfl ?_
      refine st (ev_extract rfl rfl) rfl rfl rfl ?_
      refine st (ev_extract rfl rfl) rfl rfl rfl ?_
      refine st_alloc (h := 14) ty31 rfl rfl rfl (fun b14 => ?_)
      refine st_store_all 14 ty31 rfl rfl rfl rfl rfl (by intro u hu; simp at hu; rcases hu with rfl | rfl; exact hsb68.2; exact hsm68.2) rfl rfl ?_
      refine st (ev_assign rfl) rfl rfl rfl ?_
      refine op_nil ?_
      refine ax_then ?_
      refine At.regs (L' := [(1, _), (2, _), (3, _), (9, _), (10, _), (11, _), (12, _), (13, _), (14, _), (15, _), (45, _), (46, _), (47, _), (48, _), (51, _), (52, _), (53, _), (54, _), (55, _), (56, _), (57, _), (58, _), (59, _), (60, _), (61, _), (62, _), (63, _), (64, _), (65, _), (66, _), (67, _), (68, _), (69, _), (70, _)]) (.cons rfl (.cons rfl (.cons rfl (.cons rfl (.cons rfl (.cons rfl (.cons rfl (.cons rfl (.cons rfl (.cons rfl (.cons rfl (.cons rfl (.cons rfl (.cons rfl (.cons rfl (.cons rfl (.cons rfl (.cons rfl (.cons rfl (.cons rfl (.cons rfl (.cons rfl (.cons rfl (.cons rfl (.cons rfl (.cons rfl (.cons rfl (.cons rfl (.cons rfl (.cons rfl (.cons rfl (.cons rfl (.cons rfl (.cons rfl (.nil _))))))))))))))))))))))))))))))))))) ?_
      refine cd_seq ?_
      refine cd_seq ?_
      refine cd_region ?_
      refine st (ld_blk_all (h := 12) ty31 rfl rfl rfl (by first | omega | (simp only [List.length_append, List.length_cons, List.length_nil, List.length_set, List.length_replicate, List.length_take, List.length_drop, ints_length, wr_length, sha_len, node_len, recov_len, Ky.named_len, Ky.keyPub_len, Ky.hashOf_len] <;> omega) | rfl)) rfl rfl rfl ?_
      refine st (ld_blk_all (h := 14) ty31 rfl rfl rfl (by first | omega | (simp only [List.length_append, List.length_cons, List.length_nil, List.length_set, List.length_replicate, List.length_take, List.length_drop, ints_length, wr_length, sha_len, node_len, recov_len, Ky.named_len, Ky.keyPub_len, Ky.hashOf_len] <;> omega) | rfl)) rfl rfl rfl ?_
      refine st_callv has27 rfl (fun w1 sw => renv_any bv58 mv58 bv68 mv68 (Ck.ebody n (ns.getD i 0) t) (Ck.ebody n (ns.getD i 0) t) (Ck.emarks s n (ns.getD i 0) t va58 vb58) (Ck.emarks s n (ns.getD i 0) t va68 vb68) w1 (sw.own_rd (h := 401) rfl) (sw.own_rd (h := 411) rfl) (Ck.ebody_byt _ _ _) (Ck.ebody_byt _ _ _) (Ck.emarks_ok _ _ _ _ _ _) (Ck.emarks_ok _ _ _ _ _ _) (by have := Ck.emarks_len s n (ns.getD i 0) t va58 vb58; omega) (by have := Ck.emarks_len s n (ns.getD i 0) t va68 vb68; omega) (sw.own_rd (h := 402) rfl) (sw.own_rd (h := 412) rfl) (Ck.emarks_rd (sw.own_rd (h := 403) rfl) (sw.own_rd (h := 404) rfl)) (Ck.emarks_rd (sw.own_rd (h := 413) rfl) (sw.own_rd (h := 414) rfl))) rfl rfl ?_
      refine st (ev_not_if rfl) rfl rfl rfl ?_
      refine st (ev_move rfl) rfl rfl rfl ?_
      refine at_eq (i := 75) (v' := .bool false) rfl (by rw [decide_eq_false (fun h => h ⟨rfl, Ck.emarks_strip _ _ _ _ _ _ _ _⟩)]) ?_
      refine st (ev_move rfl) rfl rfl rfl ?_
      refine st (ev_move rfl) rfl rfl rfl ?_
      refine st (ev_neq rfl rfl) rfl rfl rfl ?_
      refine st (ev_pick_f rfl rfl) rfl rfl rfl ?_
      refine op_nil ?_
      refine ax_then ?_
      refine At.regs (L' := [(1, _), (2, _), (3, _), (9, _), (10, _), (11, _), (12, _), (13, _), (14, _), (15, _), (45, _), (46, _), (47, _), (48, _), (51, _), (52, _), (53, _), (54, _), (55, _), (56, _), (57, _), (58, _), (59, _), (60, _), (61, _), (62, _), (63, _), (64, _), (65, _), (66, _), (67, _), (68, _), (69, _), (70, _), (71, _), (72, _), (73, _), (74, _), (75, _), (76, _), (77, _), (78, _), (79, _)]) (.cons rfl (.cons rfl (.cons rfl (.cons rfl (.cons rfl (.cons rfl (.cons rfl (.cons rfl (.cons rfl (.cons rfl (.cons rfl (.cons rfl (.cons rfl (.cons rfl (.cons rfl (.cons rfl (.cons rfl (.cons rfl (.cons rfl (.cons rfl (.cons rfl (.cons rfl (.cons rfl (.cons rfl (.cons rfl (.cons rfl (.cons rfl (.cons rfl (.cons rfl (.cons rfl (.cons rfl (.cons rfl (.cons rfl (.cons rfl (.cons rfl (.cons rfl (.cons rfl (.cons rfl (.cons rfl (.cons rfl (.cons rfl (.cons rfl (.cons rfl (.nil _)))))))))))))))))))))))))))))))))))))))))))) ?_
      refine cd_if_f rfl (fun h => h rfl) ?_
      refine cd_skip ?_
      refine ax_then ?_
      refine At.regs (L' := [(1, _), (2, _), (3, _), (9, _), (10, _), (11, _), (12, _), (13, _), (14, _), (15, _), (45, _), (46, _), (47, _), (48, _), (51, _), (52, _), (53, _), (54, _), (55, _), (56, _), (57, _), (58, _), (59, _), (60, _), (61, _), (62, _), (63, _), (64, _), (65, _), (66, _), (67, _), (68, _), (69, _), (70, _), (71, _), (72, _), (73, _), (74, _), (75, _), (76, _), (77, _), (78, _), (79, _)]) (.cons rfl (.cons rfl (.cons rfl (.cons rfl (.cons rfl (.cons rfl (.cons rfl (.cons rfl (.cons rfl (.cons rfl (.cons rfl (.cons rfl (.cons rfl (.cons rfl (.cons rfl (.cons rfl (.cons rfl (.cons rfl (.cons rfl (.cons rfl (.cons rfl (.cons rfl (.cons rfl (.cons rfl (.cons rfl (.cons rfl (.cons rfl (.cons rfl (.cons rfl (.cons rfl (.cons rfl (.cons rfl (.cons rfl (.cons rfl (.cons rfl (.cons rfl (.cons rfl (.cons rfl (.cons rfl (.cons rfl (.cons rfl (.cons rfl (.cons rfl (.nil _)))))))))))))))))))))))))))))))))))))))))))) ?_
      refine cd_seq ?_
      refine at_freeze_blk (h := 12) (H' := [(14, _), (228, _), (328, _), (230, _), (330, _), (401, _), (402, _), (403, _), (404, _), (411, _), (412, _), (413, _), (414, _)]) 27 rfl (.cons rfl (.cons rfl (.cons rfl (.cons rfl (.cons rfl (.cons rfl (.cons rfl (.cons rfl (.cons rfl (.cons rfl (.cons rfl (.cons rfl (.cons rfl (.nil _)))))))))))))) rfl ?_
      refine at_freeze_blk (h := 14) (H' := [(228, _), (328, _), (230, _), (330, _), (401, _), (402, _), (403, _), (404, _), (411, _), (412, _), (413, _), (414, _)]) 28 rfl (.cons rfl (.cons rfl (.cons rfl (.cons rfl (.cons rfl (.cons rfl (.cons rfl (.cons rfl (.cons rfl (.cons rfl (.cons rfl (.cons rfl (.nil _))))))))))))) rfl ?_
      have hebl := Ck.ebody_len n (ns.getD i 0) t
      refine cd_mixp [(300, .mem kbq 0 (Ky.rcells s lvq (Ky.keyPub s) ((Ck.nxt n (ns.getD i 0) t : Nat) : Int))), (27, .mem b12 0 [bv58, mv58]), (28, .mem b14 0 [bv68, mv68]), (20, .sl p 1 (ints .i64 ns)), (26, .mem cbq 0 [.pointer (some ⟨kbq, 0, none⟩)])] hmix ?_
      refine mxp (i := 0) rfl (by decide +kernel) (by decide +kernel) (by decide +kernel) rfl (fun w0 => ev_move rfl) rfl rfl (fun w sw => CF.cons (lies_blk (sw.blk_eq (h := 230) rfl)) (sw.cf (.cons rfl (.cons rfl (.cons rfl (.cons rfl (.nil _))))))) ?_
      refine mxp (i := 1) rfl (by decide +kernel) (by decide +kernel) (by decide +kernel) rfl (fun w0 => ev_nilCheck rfl) rfl rfl (fun w sw => CF.cons (lies_blk (sw.blk_eq (h := 230) rfl)) (sw.cf (.cons rfl (.cons rfl (.cons rfl (.cons rfl (.nil _))))))) ?_
      refine mxp (i := 2) rfl (by decide +kernel) (by decide +kernel) (by decide +kernel) rfl (fun w0 => ev_fieldAddr (b := _) Try.underlying65 (f := _) rfl ty63 (by decide) rfl) rfl rfl (fun w sw => CF.cons (lies_blk (sw.blk_eq (h := 230) rfl)) (sw.cf (.cons rfl (.cons rfl (.cons rfl (.cons rfl (.nil _))))))) ?_
      refine mxp (i := 3) rfl (by decide +kernel) (by decide +kernel) (by decide +kernel) rfl (fun w0 => ld_mem1 (h := 26) ty63 rfl rfl rfl (Nat.zero_add _).symm rfl) rfl rfl (fun w sw => CF.cons (lies_blk (sw.blk_eq (h := 230) rfl)) (sw.cf (.cons rfl (.cons rfl (.cons rfl (.cons rfl (.nil _))))))) ?_
      refine mxp (i := 4) rfl (by decide +kernel) (by decide +kernel) (by decide +kernel) rfl (fun w0 => ev_nilCheck rfl) rfl rfl (fun w sw => CF.cons (lies_blk (sw.blk_eq (h := 230) rfl)) (sw.cf (.cons rfl (.cons rfl (.cons rfl (.cons rfl (.nil _))))))) ?_
      refine mxp (i := 5) rfl (by decide +kernel) (by decide +kernel) (by decide +kernel) rfl (fun w0 => ev_fieldAddr (b := _) Try.underlying62 (f := _) rfl ty55 (by decide) rfl) rfl rfl (fun w sw => CF.cons (lies_blk (sw.blk_eq (h := 230) rfl)) (sw.cf (.cons rfl (.cons rfl (.cons rfl (.cons rfl (.nil _))))))) ?_
      refine mxp (i := 6) rfl (by decide +kernel) (by decide +kernel) (by decide +kernel) rfl (fun w0 => ld_mem (h := 300) (k := 33) ty55 rfl rfl rfl rfl (by rw [Ky.rcells_len hl (Ky.keyPub_len _)]; decide)) rfl rfl (fun w sw => CF.cons (lies_blk (sw.blk_eq (h := 230) rfl)) (sw.cf (.cons rfl (.cons rfl (.cons rfl (.cons rfl (.nil _))))))) ?_
      refine at_eq (i := 87) (v' := .agg (ints .u8 (Ky.keyPub s)).toArray) rfl (congrArg (fun x => Value.agg (List.toArray x)) (Ky.rcells_pub hl (Ky.keyPub_len _) _ _)) ?_
      refine mxp (i := 7) rfl (by decide +kernel) (by decide +kernel) (by decide +kernel) rfl (fun w0 => ld_mem_all (h := 27) ty31 rfl rfl rfl rfl) rfl rfl (fun w sw => CF.cons (lies_blk (sw.blk_eq (h := 230) rfl)) (sw.cf (.cons rfl (.cons rfl (.cons rfl (.cons rfl (.nil _))))))) ?_
      refine mxp (i := 8) rfl (by decide +kernel) (by decide +kernel) (by decide +kernel) rfl (fun w0 => ev_move rfl) rfl rfl (fun w sw => CF.cons (lies_blk (sw.blk_eq (h := 230) rfl)) (sw.cf (.cons rfl (.cons rfl (.cons rfl (.cons rfl (.nil _))))))) ?_
      refine mxp (i := 9) rfl (by decide +kernel) (by decide +kernel) (by decide +kernel) rfl (fun w0 => ev_move rfl) rfl rfl (fun w sw => CF.cons (lies_blk (sw.blk_eq (h := 230) rfl)) (sw.cf (.cons rfl (.cons rfl (.cons rfl (.cons rfl (.nil _))))))) ?_
      refine mxp (i := 10) rfl (by decide +kernel) (by decide +kernel) (by decide +kernel) rfl (fun w0 => ev_indexAddr_rdi (h := 20) Try.underlying49 ty3 rfl rfl rfl (by omega) (by first | omega | (simp only [List.length_append, List.length_cons, List.length_nil, List.length_set, List.length_replicate, List.length_take, List.length_drop, ints_length, wr_length, sha_len, node_len, recov_len, Ky.named_len, Ky.keyPub_len, Ky.hashOf_len] <;> omega))) rfl rfl (fun w sw => CF.cons (lies_blk (sw.blk_eq (h := 230) rfl)) (sw.cf (.cons rfl (.cons rfl (.cons rfl (.cons rfl (.nil _))))))) ?_
      refine mxp (i := 11) rfl (by decide +kernel) (by decide +kernel) (by decide +kernel) rfl (fun w0 => ld_rd1 (h := 20) ty3 rfl rfl rfl (ints_get _ _ _ (by first | omega | (simp only [List.length_append, List.length_cons, List.length_nil, List.length_set, List.length_replicate, List.length_take, List.length_drop, ints_length, wr_length, sha_len, node_len, recov_len, Ky.named_len, Ky.keyPub_len, Ky.hashOf_len] <;> omega) | rfl))) rfl rfl (fun w sw => CF.cons (lies_blk (sw.blk_eq (h := 230) rfl)) (sw.cf (.cons rfl (.cons rfl (.cons rfl (.cons rfl (.nil _))))))) ?_
      refine at_eq (i := 92) (v' := .int .i64 (ns.getD i 0)) rfl (by rw [Int.toNat_natCast]) ?_
      refine mxp_one (i := 12) (by decide +kernel) (fun w sw => CF.cons (lies_blk (sw.blk_eq (h := 230) rfl)) (sw.cf (.cons rfl (.cons rfl (.cons rfl (.cons rfl (.nil _))))))) ?_
      refine wo (i := 12) rfl ?_
      refine st_callv has28 rfl (fun w1 sw => check_any (Ky.keyPub s) bv58 mv58 (Ck.ebody n (ns.getD i 0) t) (Ck.emarks s n (ns.getD i 0) t va58 vb58) ((ns.getD i 0)) w1 (Ky.keyPub_len _) (sw.own_rd (h := 401) rfl) (by omega) (Ck.ebody_byt _ _ _) (Ck.emarks_ok _ _ _ _ _ _) (by have := Ck.emarks_len s n (ns.getD i 0) t va58 vb58; omega) (sw.own_rd (h := 402) rfl) (Ck.emarks_rd (sw.own_rd (h := 403) rfl) (sw.own_rd (h := 404) rfl))) rfl rfl ?_
      refine op_nil ?_
      refine ax_then ?_
      refine mxp (i := 13) rfl (by decide +kernel) (by decide +kernel) (by decide +kernel) rfl (fun w0 => ev_move rfl) rfl rfl (fun w sw => CF.cons (lies_blk (sw.blk_eq (h := 230) rfl)) (sw.cf (.cons rfl (.cons rfl (.cons rfl (.cons rfl (.nil _))))))) ?_
      refine mxp (i := 14) rfl (by decide +kernel) (by decide +kernel) (by decide +kernel) rfl (fun w0 => ev_extract rfl rfl) rfl rfl (fun w sw => CF.cons (lies_blk (sw.blk_eq (h := 230) rfl)) (sw.cf (.cons rfl (.cons rfl (.cons rfl (.cons rfl (.nil _))))))) ?_
      refine mxp (i := 15) rfl (by decide +kernel) (by decide +kernel) (by decide +kernel) rfl (fun w0 => ev_extract rfl rfl) rfl rfl (fun w sw => CF.cons (lies_blk (sw.blk_eq (h := 230) rfl)) (sw.cf (.cons rfl (.cons rfl (.cons rfl (.cons rfl (.nil _))))))) ?_
      refine mxp (i := 16) rfl (by decide +kernel) (by decide +kernel) (by decide +kernel) rfl (fun w0 => ev_assign rfl) rfl rfl (fun w sw => CF.cons (lies_blk (sw.blk_eq (h := 230) rfl)) (sw.cf (.cons rfl (.cons rfl (.cons rfl (.cons rfl (.nil _))))))) ?_
      refine mxp (i := 17) rfl (by decide +kernel) (by decide +kernel) (by decide +kernel) rfl (fun w0 => ev_assign rfl) rfl rfl (fun w sw => CF.cons (lies_blk (sw.blk_eq (h := 230) rfl)) (sw.cf (.cons rfl (.cons rfl (.cons rfl (.cons rfl (.nil _))))))) ?_
      refine mxp_done (by decide +kernel) (fun w sw => CF.cons (lies_blk (sw.blk_eq (h := 230) rfl)) (sw.cf (.cons rfl (.cons rfl (.cons rfl (.cons rfl (.nil _))))))) ?_
      refine ax_then ?_
      refine At.regs (L' := [(1, _), (2, _), (3, _), (9, _), (10, _), (11, _), (12, _), (13, _), (14, _), (15, _), (16, _), (17, _), (45, _), (46, _), (47, _), (48, _), (51, _), (52, _), (53, _), (54, _), (55, _), (56, _), (57, _), (58, _), (59, _), (60, _), (61, _), (62, _), (63, _), (64, _), (65, _), (66, _), (67, _), (68, _), (69, _), (70, _), (71, _), (72, _), (73, _), (74, _), (75, _), (76, _), (77, _), (78, _), (79, _), (80, _), (81, _), (82, _), (83, _), (84, _), (85, _), (86, _), (87, _), (88, _), (89, _), (90, _), (91, _), (92, _), (93, _), (94, _), (95, _)]) (.cons rfl (.cons rfl (.cons rfl (.cons rfl (.cons rfl (.cons rfl (.cons rfl (.cons rfl (.cons rfl (.cons rfl (.cons rfl (.cons rfl (.cons rfl (.cons rfl (.cons rfl (.cons rfl (.cons rfl (.cons rfl (.cons rfl (.cons rfl (.cons rfl (.cons rfl (.cons rfl (.cons rfl (.cons rfl (.cons rfl (.cons rfl (.cons rfl (.cons rfl (.cons rfl (.cons rfl (.cons rfl (.cons rfl (.cons rfl (.cons rfl (.cons rfl (.cons rfl (.cons rfl (.cons rfl (.cons rfl (.cons rfl (.cons rfl (.cons rfl (.cons rfl (.cons rfl (.cons rfl (.cons rfl (.cons rfl (.cons rfl (.cons rfl (.cons rfl (.cons rfl (.cons rfl (.cons rfl (.cons rfl (.cons rfl (.cons rfl (.cons rfl (.cons rfl (.cons rfl (.cons rfl (.nil _)))))))))))))))))))))))))))))))))))))))))))))))))))))))))))))) ?_
      refine cd_seq ?_
      refine cd_mixp [(300, .mem kbq 0 (Ky.rcells s lvq (Ky.keyPub s) ((Ck.nxt n (ns.getD i 0) t : Nat) : Int))), (27, .mem b12 0 [bv58, mv58]), (28, .mem b14 0 [bv68, mv68]), (20, .sl p 1 (ints .i64 ns)), (26, .mem cbq 0 [.pointer (some ⟨kbq, 0, none⟩)])] hmix ?_
      refine mxp (i := 0) rfl (by decide +kernel) (by decide +kernel) (by decide +kernel) rfl (fun w0 => ev_move rfl) rfl rfl (fun w sw => CF.cons (lies_blk (sw.blk_eq (h := 230) rfl)) (sw.cf (.cons rfl (.cons rfl (.cons rfl (.cons rfl (.nil _))))))) ?_
      refine mxp (i := 1) rfl (by decide +kernel) (by decide +kernel) (by decide +kernel) rfl (fun w0 => ev_nilCheck rfl) rfl rfl (fun w sw => CF.cons (lies_blk (sw.blk_eq (h := 230) rfl)) (sw.cf (.cons rfl (.cons rfl (.cons rfl (.cons rfl (.nil _))))))) ?_
      refine mxp (i := 2) rfl (by decide +kernel) (by decide +kernel) (by decide +kernel) rfl (fun w0 => ev_fieldAddr (b := _) Try.underlying65 (f := _) rfl ty63 (by decide) rfl) rfl rfl (fun w sw => CF.cons (lies_blk (sw.blk_eq (h := 230) rfl)) (sw.cf (.cons rfl (.cons rfl (.cons rfl (.cons rfl (.nil _))))))) ?_
      refine mxp (i := 3) rfl (by decide +kernel) (by decide +kernel) (by decide +kernel) rfl (fun w0 => ld_mem1 (h := 26) ty63 rfl rfl rfl (Nat.zero_add _).symm rfl) rfl rfl (fun w sw => CF.cons (lies_blk (sw.blk_eq (h := 230) rfl)) (sw.cf (.cons rfl (.cons rfl (.cons rfl (.cons rfl (.nil _))))))) ?_
      refine mxp (i := 4) rfl (by decide +kernel) (by decide +kernel) (by decide +kernel) rfl (fun w0 => ev_nilCheck rfl) rfl rfl (fun w sw => CF.cons (lies_blk (sw.blk_eq (h := 230) rfl)) (sw.cf (.cons rfl (.cons rfl (.cons rfl (.cons rfl (.nil _))))))) ?_
      refine mxp (i := 5) rfl (by decide +kernel) (by decide +kernel) (by decide +kernel) rfl (fun w0 => ev_fieldAddr (b := _) Try.underlying62 (f := _) rfl ty55 (by decide) rfl) rfl rfl (fun w sw => CF.cons (lies_blk (sw.blk_eq (h := 230) rfl)) (sw.cf (.cons rfl (.cons rfl (.cons rfl (.cons rfl (.nil _))))))) ?_
      refine mxp (i := 6) rfl (by decide +kernel) (by decide +kernel) (by decide +kernel) rfl (fun w0 => ld_mem (h := 300) (k := 33) ty55 rfl rfl rfl rfl (by rw [Ky.rcells_len hl (Ky.keyPub_len _)]; decide)) rfl rfl (fun w sw => CF.cons (lies_blk (sw.blk_eq (h := 230) rfl)) (sw.cf (.cons rfl (.cons rfl (.cons rfl (.cons rfl (.nil _))))))) ?_
      refine at_eq (i := 103) (v' := .agg (ints .u8 (Ky.keyPub s)).toArray) rfl (congrArg (fun x => Value.agg (List.toArray x)) (Ky.rcells_pub hl (Ky.keyPub_len _) _ _)) ?_
      refine mxp (i := 7) rfl (by decide +kernel) (by decide +kernel) (by decide +kernel) rfl (fun w0 => ld_mem_all (h := 28) ty31 rfl rfl rfl rfl) rfl rfl (fun w sw => CF.cons (lies_blk (sw.blk_eq (h := 230) rfl)) (sw.cf (.cons rfl (.cons rfl (.cons rfl (.cons rfl (.nil _))))))) ?_
      refine mxp (i := 8) rfl (by decide +kernel) (by decide +kernel) (by decide +kernel) rfl (fun w0 => ev_move rfl) rfl rfl (fun w sw => CF.cons (lies_blk (sw.blk_eq (h := 230) rfl)) (sw.cf (.cons rfl (.cons rfl (.cons rfl (.cons rfl (.nil _))))))) ?_
      refine mxp (i := 9) rfl (by decide +kernel) (by decide +kernel) (by decide +kernel) rfl (fun w0 => ev_move rfl) rfl rfl (fun w sw => CF.cons (lies_blk (sw.blk_eq (h := 230) rfl)) (sw.cf (.cons rfl (.cons rfl (.cons rfl (.cons rfl (.nil _))))))) ?_
      refine mxp (i := 10) rfl (by decide +kernel) (by decide +kernel) (by decide +kernel) rfl (fun w0 => ev_indexAddr_rdi (h := 20) Try.underlying49 ty3 rfl rfl rfl (by omega) (by first | omega | (simp only [List.length_append, List.length_cons, List.length_nil, List.length_set, List.length_replicate, List.length_take, List.length_drop, ints_length, wr_length, sha_len, node_len, recov_len, Ky.named_len, Ky.keyPub_len, Ky.hashOf_len] <;> omega))) rfl rfl (fun w sw => CF.cons (lies_blk (sw.blk_eq (h := 230) rfl)) (sw.cf (.cons rfl (.cons rfl (.cons rfl (.cons rfl (.nil _))))))) ?_
      refine mxp (i := 11) rfl (by decide +kernel) (by decide +kernel) (by decide +kernel) rfl (fun w0 => ld_rd1 (h := 20) ty3 rfl rfl rfl (ints_get _ _ _ (by first | omega | (simp only [List.length_append, List.length_cons, List.length_nil, List.length_set, List.length_replicate, List.length_take, List.length_drop, ints_length, wr_length, sha_len, node_len, recov_len, Ky.named_len, Ky.keyPub_len, Ky.hashOf_len] <;> omega) | rfl))) rfl rfl (fun w sw => CF.cons (lies_blk (sw.blk_eq (h := 230) rfl)) (sw.cf (.cons rfl (.cons rfl (.cons rfl (.cons rfl (.nil _))))))) ?_
      refine at_eq (i := 108) (v' := .int .i64 (ns.getD i 0)) rfl (by rw [Int.toNat_natCast]) ?_
      refine mxp_one (i := 12) (by decide +kernel) (fun w sw => CF.cons (lies_blk (sw.blk_eq (h := 230) rfl)) (sw.cf (.cons rfl (.cons rfl (.cons rfl (.cons rfl (.nil _))))))) ?_
      refine wo (i := 12) rfl ?_
      refine st_callv has29 rfl (fun w1 sw => qcheck_any (Ky.keyPub s) bv68 mv68 (Ck.ebody n (ns.getD i 0) t) (Ck.emarks s n (ns.getD i 0) t va68 vb68) ((ns.getD i 0)) w1 (Ky.keyPub_len _) (sw.own_rd (h := 411) rfl) (by omega) (Ck.ebody_byt _ _ _) (Ck.emarks_ok _ _ _ _ _ _) (by have := Ck.emarks_len s n (ns.getD i 0) t va68 vb68; omega) (sw.own_rd (h := 412) rfl) (Ck.emarks_rd (sw.own_rd (h := 413) rfl) (sw.own_rd (h := 414) rfl))) rfl rfl ?_
      refine op_nil ?_
      refine ax_then ?_
      refine mxp (i := 13) rfl (by decide +kernel) (by decide +kernel) (by decide +kernel) rfl (fun w0 => ev_move rfl) rfl rfl (fun w sw => CF.cons (lies_blk (sw.blk_eq (h := 230) rfl)) (sw.cf (.cons rfl (.cons rfl (.cons rfl (.cons rfl (.nil _))))))) ?_
      refine mxp (i := 14) rfl (by decide +kernel) (by decide +kernel) (by decide +kernel) rfl (fun w0 => ev_extract rfl rfl) rfl rfl (fun w sw => CF.cons (lies_blk (sw.blk_eq (h := 230) rfl)) (sw.cf (.cons rfl (.cons rfl (.cons rfl (.cons rfl (.nil _))))))) ?_
      refine mxp (i := 15) rfl (by decide +kernel) (by decide +kernel) (by decide +kernel) rfl (fun w0 => ev_extract rfl rfl) rfl rfl (fun w sw => CF.cons (lies_blk (sw.blk_eq (h := 230) rfl)) (sw.cf (.cons rfl (.cons rfl (.cons rfl (.cons rfl (.nil _))))))) ?_
      refine mxp (i := 16) rfl (by decide +kernel) (by decide +kernel) (by decide +kernel) rfl (fun w0 => ev_assign rfl) rfl rfl (fun w sw => CF.cons (lies_blk (sw.blk_eq (h := 230) rfl)) (sw.cf (.cons rfl (.cons rfl (.cons rfl (.cons rfl (.nil _))))))) ?_
      refine mxp (i := 17) rfl (by decide +kernel) (by decide +kernel) (by decide +kernel) rfl (fun w0 => ev_assign rfl) rfl rfl (fun w sw => CF.cons (lies_blk (sw.blk_eq (h := 230) rfl)) (sw.cf (.cons rfl (.cons rfl (.cons rfl (.cons rfl (.nil _))))))) ?_
      refine mxp_done (by decide +kernel) (fun w sw => CF.cons (lies_blk (sw.blk_eq (h := 230) rfl)) (sw.cf (.cons rfl (.cons rfl (.cons rfl (.cons rfl (.nil _))))))) ?_
      refine ax_then ?_
      refine At.regs (L' := [(1, _), (2, _), (3, _), (9, _), (10, _), (11, _), (12, _), (13, _), (14, _), (15, _), (16, _), (17, _), (18, _), (19, _), (45, _), (46, _), (47, _), (48, _), (51, _), (52, _), (53, _), (54, _), (55, _), (56, _), (57, _), (58, _), (59, _), (60, _), (61, _), (62, _), (63, _), (64, _), (65, _), (66, _), (67, _), (68, _), (69, _), (70, _), (71, _), (72, _), (73, _), (74, _), (75, _), (76, _), (77, _), (78, _), (79, _), (80, _), (81, _), (82, _), (83, _), (84, _), (85, _), (86, _), (87, _), (88, _), (89, _), (90, _), (91, _), (92, _), (93, _), (94, _), (95, _), (96, _), (97, _), (98, _), (99, _), (100, _), (101, _), (102, _), (103, _), (104, _), (105, _), (106, _), (107, _), (108, _), (109, _), (110, _), (111, _)]) (.cons rfl (.cons rfl (.cons rfl (.cons rfl (.cons rfl (.cons rfl (.cons rfl (.cons rfl (.cons rfl (.cons rfl (.cons rfl (.cons rfl (.cons rfl (.cons rfl (.cons rfl (.cons rfl (.cons rfl (.cons rfl (.cons rfl (.cons rfl (.cons rfl (.cons rfl (.cons rfl (.cons rfl (.cons rfl (.cons rfl (.cons rfl (.cons rfl (.cons rfl (.cons rfl (.cons rfl (.cons rfl (.cons rfl (.cons rfl (.cons rfl (.cons rfl (.cons rfl (.cons rfl (.cons rfl (.cons rfl (.cons rfl (.cons rfl (.cons rfl (.cons rfl (.cons rfl (.cons rfl (.cons rfl (.cons rfl (.cons rfl (.cons rfl (.cons rfl (.cons rfl (.cons rfl (.cons rfl (.cons rfl (.cons rfl (.cons rfl (.cons rfl (.cons rfl (.cons rfl (.cons rfl (.cons rfl (.cons rfl (.cons rfl (.cons rfl (.cons rfl (.cons rfl (.cons rfl (.cons rfl (.cons rfl (.cons rfl (.cons rfl (.cons rfl (.cons rfl (.cons rfl (.cons rfl (.cons rfl (.cons rfl (.cons rfl (.nil _)))))))))))))))))))))))))))))))))))))))))))))))))))))))))))))))))))))))))))))))) ?_
      refine cd_seq ?_
      refine cd_mixp [(300, .mem kbq 0 (Ky.rcells s lvq (Ky.keyPub s) ((Ck.nxt n (ns.getD i 0) t : Nat) : Int))), (27, .mem b12 0 [bv58, mv58]), (28, .mem b14 0 [bv68, mv68]), (20, .sl p 1 (ints .i64 ns)), (26, .mem cbq 0 [.pointer (some ⟨kbq, 0, none⟩)])] hmix ?_
      refine mxp (i := 0) rfl (by decide +kernel) (by decide +kernel) (by decide +kernel) rfl (fun w0 => ev_move rfl) rfl rfl (fun w sw => CF.cons (lies_blk (sw.blk_eq (h := 230) rfl)) (sw.cf (.cons rfl (.cons rfl (.cons rfl (.cons rfl (.nil _))))))) ?_
      refine mxp (i := 1) rfl (by decide +kernel) (by decide +kernel) (by decide +kernel) rfl (fun w0 => ev_nilCheck rfl) rfl rfl (fun w sw => CF.cons (lies_blk (sw.blk_eq (h := 230) rfl)) (sw.cf (.cons rfl (.cons rfl (.cons rfl (.cons rfl (.nil _))))))) ?_
      refine mxp (i := 2) rfl (by decide +kernel) (by decide +kernel) (by decide +kernel) rfl (fun w0 => ev_fieldAddr (b := _) Try.underlying65 (f := _) rfl ty63 (by decide) rfl) rfl rfl (fun w sw => CF.cons (lies_blk (sw.blk_eq (h := 230) rfl)) (sw.cf (.cons rfl (.cons rfl (.cons rfl (.cons rfl (.nil _))))))) ?_
      refine mxp (i := 3) rfl (by decide +kernel) (by decide +kernel) (by decide +kernel) rfl (fun w0 => ld_mem1 (h := 26) ty63 rfl rfl rfl (Nat.zero_add _).symm rfl) rfl rfl (fun w sw => CF.cons (lies_blk (sw.blk_eq (h := 230) rfl)) (sw.cf (.cons rfl (.cons rfl (.cons rfl (.cons rfl (.nil _))))))) ?_
      refine mxp (i := 4) rfl (by decide +kernel) (by decide +kernel) (by decide +kernel) rfl (fun w0 => ev_nilCheck rfl) rfl rfl (fun w sw => CF.cons (lies_blk (sw.blk_eq (h := 230) rfl)) (sw.cf (.cons rfl (.cons rfl (.cons rfl (.cons rfl (.nil _))))))) ?_
      refine mxp (i := 5) rfl (by decide +kernel) (by decide +kernel) (by decide +kernel) rfl (fun w0 => ev_fieldAddr (b := _) Try.underlying62 (f := _) rfl ty55 (by decide) rfl) rfl rfl (fun w sw => CF.cons (lies_blk (sw.blk_eq (h := 230) rfl)) (sw.cf (.cons rfl (.cons rfl (.cons rfl (.cons rfl (.nil _))))))) ?_
      refine mxp (i := 6) rfl (by decide +kernel) (by decide +kernel) (by decide +kernel) rfl (fun w0 => ld_mem (h := 300) (k := 33) ty55 rfl rfl rfl rfl (by rw [Ky.rcells_len hl (Ky.keyPub_len _)]; decide)) rfl rfl (fun w sw => CF.cons (lies_blk (sw.blk_eq (h := 230) rfl)) (sw.cf (.cons rfl (.cons rfl (.cons rfl (.cons rfl (.nil _))))))) ?_
      refine at_eq (i := 119) (v' := .agg (ints .u8 (Ky.keyPub s)).toArray) rfl (congrArg (fun x => Value.agg (List.toArray x)) (Ky.rcells_pub hl (Ky.keyPub_len _) _ _)) ?_
      refine mxp (i := 7) rfl (by decide +kernel) (by decide +kernel) (by decide +kernel) rfl (fun w0 => ld_mem_all (h := 27) ty31 rfl rfl rfl rfl) rfl rfl (fun w sw => CF.cons (lies_blk (sw.blk_eq (h := 230) rfl)) (sw.cf (.cons rfl (.cons rfl (.cons rfl (.cons rfl (.nil _))))))) ?_
      refine mxp (i := 8) rfl (by decide +kernel) (by decide +kernel) (by decide +kernel) rfl (fun w0 => ev_move rfl) rfl rfl (fun w sw => CF.cons (lies_blk (sw.blk_eq (h := 230) rfl)) (sw.cf (.cons rfl (.cons rfl (.cons rfl (.cons rfl (.nil _))))))) ?_
      refine mxp_one (i := 9) (by decide +kernel) (fun w sw => CF.cons (lies_blk (sw.blk_eq (h := 230) rfl)) (sw.cf (.cons rfl (.cons rfl (.cons rfl (.cons rfl (.nil _))))))) ?_
      refine wo (i := 9) rfl ?_
      refine st_callv has28 rfl (fun w1 sw => check_any (Ky.keyPub s) bv58 mv58 (Ck.ebody n (ns.getD i 0) t) (Ck.emarks s n (ns.getD i 0) t va58 vb58) (o) w1 (Ky.keyPub_len _) (sw.own_rd (h := 401) rfl) (by omega) (Ck.ebody_byt _ _ _) (Ck.emarks_ok _ _ _ _ _ _) (by have := Ck.emarks_len s n (ns.getD i 0) t va58 vb58; omega) (sw.own_rd (h := 402) rfl) (Ck.emarks_rd (sw.own_rd (h := 403) rfl) (sw.own_rd (h := 404) rfl))) rfl rfl ?_
      refine op_nil ?_
      refine ax_then ?_
      refine mxp (i := 10) rfl (by decide +kernel) (by decide +kernel) (by decide +kernel) rfl (fun w0 => ev_move rfl) rfl rfl (fun w sw => CF.cons (lies_blk (sw.blk_eq (h := 230) rfl)) (sw.cf (.cons rfl (.cons rfl (.cons rfl (.cons rfl (.nil _))))))) ?_
      refine mxp (i := 11) rfl (by decide +kernel) (by decide +kernel) (by decide +kernel) rfl (fun w0 => ev_extract rfl rfl) rfl rfl (fun w sw => CF.cons (lies_blk (sw.blk_eq (h := 230) rfl)) (sw.cf (.cons rfl (.cons rfl (.cons rfl (.cons rfl (.nil _))))))) ?_
      refine mxp (i := 12) rfl (by decide +kernel) (by decide +kernel) (by decide +kernel) rfl (fun w0 => ev_extract rfl rfl) rfl rfl (fun w sw => CF.cons (lies_blk (sw.blk_eq (h := 230) rfl)) (sw.cf (.cons rfl (.cons rfl (.cons rfl (.cons rfl (.nil _))))))) ?_
      refine mxp (i := 13) rfl (by decide +kernel) (by decide +kernel) (by decide +kernel) rfl (fun w0 => ev_assign rfl) rfl rfl (fun w sw => CF.cons (lies_blk (sw.blk_eq (h := 230) rfl)) (sw.cf (.cons rfl (.cons rfl (.cons rfl (.cons rfl (.nil _))))))) ?_
      refine mxp (i := 14) rfl (by decide +kernel) (by decide +kernel) (by decide +kernel) rfl (fun w0 => ev_assign rfl) rfl rfl (fun w sw => CF.cons (lies_blk (sw.blk_eq (h := 230) rfl)) (sw.cf (.cons rfl (.cons rfl (.cons rfl (.cons rfl (.nil _))))))) ?_
      refine mxp_done (by decide +kernel) (fun w sw => CF.cons (lies_blk (sw.blk_eq (h := 230) rfl)) (sw.cf (.cons rfl (.cons rfl (.cons rfl (.cons rfl (.nil _))))))) ?_
      refine ax_then ?_
      refine At.regs (L' := [(1, _), (2, _), (3, _), (9, _), (10, _), (11, _), (12, _), (13, _), (14, _), (15, _), (16, _), (17, _), (18, _), (19, _), (20, _), (21, _), (45, _), (46, _), (47, _), (48, _), (51, _), (52, _), (53, _), (54, _), (55, _), (56, _), (57, _), (58, _), (59, _), (60, _), (61, _), (62, _), (63, _), (64, _), (65, _), (66, _), (67, _), (68, _), (69, _), (70, _), (71, _), (72, _), (73, _), (74, _), (75, _), (76, _), (77, _), (78, _), (79, _), (80, _), (81, _), (82, _), (83, _), (84, _), (85, _), (86, _), (87, _), (88, _), (89, _), (90, _), (91, _), (92, _), (93, _), (94, _), (95, _), (96, _), (97, _), (98, _), (99, _), (100, _), (101, _), (102, _), (103, _), (104, _), (105, _), (106, _), (107, _), (108, _), (109, _), (110, _), (111, _), (112, _), (113, _), (114, _), (115, _), (116, _), (117, _), (118, _), (119, _), (120, _), (121, _), (122, _), (123, _), (124, _)]) (.cons rfl (.cons rfl (.cons rfl (.cons rfl (.cons rfl (.cons rfl (.cons rfl (.cons rfl (.cons rfl (.cons rfl (.cons rfl (.cons rfl (.cons rfl (.cons rfl (.cons rfl (.cons rfl (.cons rfl (.cons rfl (.cons rfl (.cons rfl (.cons rfl (.cons rfl (.cons rfl (.cons rfl (.cons rfl (.cons rfl (.cons rfl (.cons rfl (.cons rfl (.cons rfl (.cons rfl (.cons rfl (.cons rfl (.cons rfl (.cons rfl (.cons rfl (.cons rfl (.cons rfl (.cons rfl (.cons rfl (.cons rfl (.cons rfl (.cons rfl (.cons rfl (.cons rfl (.cons rfl (.cons rfl (.cons rfl (.cons rfl (.cons rfl (.cons rfl (.cons rfl (.cons rfl (.cons rfl (.cons rfl (.cons rfl (.cons rfl (.cons rfl (.cons rfl (.cons rfl (.cons rfl (.cons rfl (.cons rfl (.cons rfl (.cons rfl (.cons rfl (.cons rfl (.cons rfl (.cons rfl (.cons rfl (.cons rfl (.cons rfl (.cons rfl (.cons rfl (.cons rfl (.cons rfl (.cons rfl (.cons rfl (.cons rfl (.cons rfl (.cons rfl (.cons rfl (.cons rfl (.cons rfl (.cons rfl (.cons rfl (.cons rfl (.cons rfl (.cons rfl (.cons rfl (.cons rfl (.cons rfl (.cons rfl (.cons rfl (.nil _))))))))))))))))))))))))))))))))))))))))))))))))))))))))))))))))))))))))))))))))))))))))))))))) ?_
      refine cd_seq ?_
      refine cd_mixp [(300, .mem kbq 0 (Ky.rcells s lvq (Ky.keyPub s) ((Ck.nxt n (ns.getD i 0) t : Nat) : Int))), (27, .mem b12 0 [bv58, mv58]), (28, .mem b14 0 [bv68, mv68]), (20, .sl p 1 (ints .i64 ns)), (26, .mem cbq 0 [.pointer (some ⟨kbq, 0, none⟩)])] hmix ?_
      refine mxp (i := 0) rfl (by decide +kernel) (by decide +kernel) (by decide +kernel) rfl (fun w0 => ev_move rfl) rfl rfl (fun w sw => CF.cons (lies_blk (sw.blk_eq (h := 230) rfl)) (sw.cf (.cons rfl (.cons rfl (.cons rfl (.cons rfl (.nil _))))))) ?_
      refine mxp (i := 1) rfl (by decide +kernel) (by decide +kernel) (by decide +kernel) rfl (fun w0 => ev_nilCheck rfl) rfl rfl (fun w sw => CF.cons (lies_blk (sw.blk_eq (h := 230) rfl)) (sw.cf (.cons rfl (.cons rfl (.cons rfl (.cons rfl (.nil _))))))) ?_
      refine mxp (i := 2) rfl (by decide +kernel) (by decide +kernel) (by decide +kernel) rfl (fun w0 => ev_fieldAddr (b := _) Try.underlying65 (f := _) rfl ty63 (by decide) rfl) rfl rfl (fun w sw => CF.cons (lies_blk (sw.blk_eq (h := 230) rfl)) (sw.cf (.cons rfl (.cons rfl (.cons rfl (.cons rfl (.nil _))))))) ?_
      refine mxp (i := 3) rfl (by decide +kernel) (by decide +kernel) (by decide +kernel) rfl (fun w0 => ld_mem1 (h := 26) ty63 rfl rfl rfl (Nat.zero_add _).symm rfl) rfl rfl (fun w sw => CF.cons (lies_blk (sw.blk_eq (h := 230) rfl)) (sw.cf (.cons rfl (.cons rfl (.cons rfl (.cons rfl (.nil _))))))) ?_
      refine mxp (i := 4) rfl (by decide +kernel) (by decide +kernel) (by decide +kernel) rfl (fun w0 => ev_nilCheck rfl) rfl rfl (fun w sw => CF.cons (lies_blk (sw.blk_eq (h := 230) rfl)) (sw.cf (.cons rfl (.cons rfl (.cons rfl (.cons rfl (.nil _))))))) ?_
      refine mxp (i := 5) rfl (by decide +kernel) (by decide +kernel) (by decide +kernel) rfl (fun w0 => ev_fieldAddr (b := _) Try.underlying62 (f := _) rfl ty55 (by decide) rfl) rfl rfl (fun w sw => CF.cons (lies_blk (sw.blk_eq (h := 230) rfl)) (sw.cf (.cons rfl (.cons rfl (.cons rfl (.cons rfl (.nil _))))))) ?_
      refine mxp (i := 6) rfl (by decide +kernel) (by decide +kernel) (by decide +kernel) rfl (fun w0 => ld_mem (h := 300) (k := 33) ty55 rfl rfl rfl rfl (by rw [Ky.rcells_len hl (Ky.keyPub_len _)]; decide)) rfl rfl (fun w sw => CF.cons (lies_blk (sw.blk_eq (h := 230) rfl)) (sw.cf (.cons rfl (.cons rfl (.cons rfl (.cons rfl (.nil _))))))) ?_
      refine at_eq (i := 132) (v' := .agg (ints .u8 (Ky.keyPub s)).toArray) rfl (congrArg (fun x => Value.agg (List.toArray x)) (Ky.rcells_pub hl (Ky.keyPub_len _) _ _)) ?_
      refine mxp (i := 7) rfl (by decide +kernel) (by decide +kernel) (by decide +kernel) rfl (fun w0 => ld_mem_all (h := 28) ty31 rfl rfl rfl rfl) rfl rfl (fun w sw => CF.cons (lies_blk (sw.blk_eq (h := 230) rfl)) (sw.cf (.cons rfl (.cons rfl (.cons rfl (.cons rfl (.nil _))))))) ?_
      refine mxp (i := 8) rfl (by decide +kernel) (by decide +kernel) (by decide +kernel) rfl (fun w0 => ev_move rfl) rfl rfl (fun w sw => CF.cons (lies_blk (sw.blk_eq (h := 230) rfl)) (sw.cf (.cons rfl (.cons rfl (.cons rfl (.cons rfl (.nil _))))))) ?_
      refine mxp_one (i := 9) (by decide +kernel) (fun w sw => CF.cons (lies_blk (sw.blk_eq (h := 230) rfl)) (sw.cf (.cons rfl (.cons rfl (.cons rfl (.cons rfl (.nil _))))))) ?_
      refine wo (i := 9) rfl ?_
      refine st_callv has29 rfl (fun w1 sw => qcheck_any (Ky.keyPub s) bv68 mv68 (Ck.ebody n (ns.getD i 0) t) (Ck.emarks s n (ns.getD i 0) t va68 vb68) (o) w1 (Ky.keyPub_len _) (sw.own_rd (h := 411) rfl) (by omega) (Ck.ebody_byt _ _ _) (Ck.emarks_ok _ _ _ _ _ _) (by have := Ck.emarks_len s n (ns.getD i 0) t va68 vb68; omega) (sw.own_rd (h := 412) rfl) (Ck.emarks_rd (sw.own_rd (h := 413) rfl) (sw.own_rd (h := 414) rfl))) rfl rfl ?_
      refine op_nil ?_
      refine ax_then ?_
      refine mxp (i := 10) rfl (by decide +kernel) (by decide +kernel) (by decide +kernel) rfl (fun w0 => ev_move rfl) rfl rfl (fun w sw => CF.cons (lies_blk (sw.blk_eq (h := 230) rfl)) (sw.cf (.cons rfl (.cons rfl (.cons rfl (.cons rfl (.nil _))))))) ?_
      refine mxp (i := 11) rfl (by decide +kernel) (by decide +kernel) (by decide +kernel) rfl (fun w0 => ev_extract rfl rfl) rfl rfl (fun w sw => CF.cons (lies_blk (sw.blk_eq (h := 230) rfl)) (sw.cf (.cons rfl (.cons rfl (.cons rfl (.cons rfl (.nil _))))))) ?_
      refine mxp (i := 12) rfl (by decide +kernel) (by decide +kernel) (by decide +kernel) rfl (fun w0 => ev_extract rfl rfl) rfl rfl (fun w sw => CF.cons (lies_blk (sw.blk_eq (h := 230) rfl)) (sw.cf (.cons rfl (.cons rfl (.cons rfl (.cons rfl (.nil _))))))) ?_
      refine mxp (i := 13) rfl (by decide +kernel) (by decide +kernel) (by decide +kernel) rfl (fun w0 => ev_assign rfl) rfl rfl (fun w sw => CF.cons (lies_blk (sw.blk_eq (h := 230) rfl)) (sw.cf (.cons rfl (.cons rfl (.cons rfl (.cons rfl (.nil _))))))) ?_
      refine mxp (i := 14) rfl (by decide +kernel) (by decide +kernel) (by decide +kernel) rfl (fun w0 => ev_assign rfl) rfl rfl (fun w sw => CF.cons (lies_blk (sw.blk_eq (h := 230) rfl)) (sw.cf (.cons rfl (.cons rfl (.cons rfl (.cons rfl (.nil _))))))) ?_
      refine mxp_done (by decide +kernel) (fun w sw => CF.cons (lies_blk (sw.blk_eq (h := 230) rfl)) (sw.cf (.cons rfl (.cons rfl (.cons rfl (.cons rfl (.nil _))))))) ?_
      refine ax_then ?_
      refine At.regs (L' := [(1, _), (2, _), (3, _), (9, _), (10, _), (11, _), (12, _), (13, _), (14, _), (15, _), (16, _), (17, _), (18, _), (19, _), (20, _), (21, _), (22, _), (23, _), (45, _), (46, _), (47, _), (48, _), (51, _), (52, _), (53, _), (54, _), (55, _), (56, _), (57, _), (58, _), (59, _), (60, _), (61, _), (62, _), (63, _), (64, _), (65, _), (66, _), (67, _), (68, _), (69, _), (70, _), (71, _), (72, _), (73, _), (74, _), (75, _), (76, _), (77, _), (78, _), (79, _), (80, _), (81, _), (82, _), (83, _), (84, _), (85, _), (86, _), (87, _), (88, _), (89, _), (90, _), (91, _), (92, _), (93, _), (94, _), (95, _), (96, _), (97, _), (98, _), (99, _), (100, _), (101, _), (102, _), (103, _), (104, _), (105, _), (106, _), (107, _), (108, _), (109, _), (110, _), (111, _), (112, _), (113, _), (114, _), (115, _), (116, _), (117, _), (118, _), (119, _), (120, _), (121, _), (122, _), (123, _), (124, _), (125, _), (126, _), (127, _), (128, _), (129, _), (130, _), (131, _), (132, _), (133, _), (134, _), (135, _), (136, _), (137, _)]) (.cons rfl (.cons rfl (.cons rfl (.cons rfl (.cons rfl (.cons rfl (.cons rfl (.cons rfl (.cons rfl (.cons rfl (.cons rfl (.cons rfl (.cons rfl (.cons rfl (.cons rfl (.cons rfl (.cons rfl (.cons rfl (.cons rfl (.cons rfl (.cons rfl (.cons rfl (.cons rfl (.cons rfl (.cons rfl (.cons rfl (.cons rfl (.cons rfl (.cons rfl (.cons rfl (.cons rfl (.cons rfl (.cons rfl (.cons rfl (.cons rfl (.cons rfl (.cons rfl (.cons rfl (.cons rfl (.cons rfl (.cons rfl (.cons rfl (.cons rfl (.cons rfl (.cons rfl (.cons rfl (.cons rfl (.cons rfl (.cons rfl (.cons rfl (.cons rfl (.cons rfl (.cons rfl (.cons rfl (.cons rfl (.cons rfl (.cons rfl (.cons rfl (.cons rfl (.cons rfl (.cons rfl (.cons rfl (.cons rfl (.cons rfl (.cons rfl (.cons rfl (.cons rfl (.cons rfl (.cons rfl (.cons rfl (.cons rfl (.cons rfl (.cons rfl (.cons rfl (.cons rfl (.cons rfl (.cons rfl (.cons rfl (.cons rfl (.cons rfl (.cons rfl (.cons rfl (.cons rfl (.cons rfl (.cons rfl (.cons rfl (.cons rfl (.cons rfl (.cons rfl (.cons rfl (.cons rfl (.cons rfl (.cons rfl (.cons rfl (.cons rfl (.cons rfl (.cons rfl (.cons rfl (.cons rfl (.cons rfl (.cons rfl (.cons rfl (.cons rfl (.cons rfl (.cons rfl (.cons rfl (.cons rfl (.cons rfl (.cons rfl (.nil _)))))))))))))))))))))))))))))))))))))))))))))))))))))))))))))))))))))))))))))))))))))))))))))))))))))))))))))) ?_
      refine cd_seq ?_
      refine cd_region ?_
      refine st (ev_move rfl) rfl rfl rfl ?_
      refine st (ev_move rfl) rfl rfl rfl ?_
      refine st (ev_neq rfl rfl) rfl rfl rfl ?_
      refine st (ev_move rfl) rfl rfl rfl ?_
      refine at_eq (i := 141) (v' := .bool false) rfl (by simp only [Value.bool.injEq, decide_eq_true_eq, decide_eq_false_iff_not]; exact fun h => h (congrArg Prod.fst (Ck.chk_two s n (ns.getD i 0) t va58 vb58 va68 vb68 (Ky.keyPub s) (ns.getD i 0)))) ?_
      refine st (ev_move rfl) rfl rfl rfl ?_
      refine st (ev_move rfl) rfl rfl rfl ?_
      refine st (ev_neq rfl rfl) rfl rfl rfl ?_
      refine st (ev_pick_f rfl rfl) rfl rfl rfl ?_
      refine st (ev_move rfl) rfl rfl rfl ?_
      refine at_eq (i := 146) (v' := .bool false) rfl (by simp only [Value.bool.injEq, decide_eq_true_eq, decide_eq_false_iff_not]; exact fun h => h (congrArg Prod.snd (Ck.chk_two s n (ns.getD i 0) t va58 vb58 va68 vb68 (Ky.keyPub s) (ns.getD i 0)))) ?_
      refine st (ev_move rfl) rfl rfl rfl ?_
      refine st (ev_move rfl) rfl rfl rfl ?_
      refine st (ev_neq rfl rfl) rfl rfl rfl ?_
      refine st (ev_pick_f rfl rfl) rfl rfl rfl ?_
      refine st (ev_move rfl) rfl rfl rfl ?_
      refine at_eq (i := 151) (v' := .bool false) rfl (by simp only [Value.bool.injEq, decide_eq_true_eq, decide_eq_false_iff_not]; exact fun h => h (congrArg Prod.fst (Ck.chk_two s n (ns.getD i 0) t va58 vb58 va68 vb68 (Ky.keyPub s) o))) ?_
      refine st (ev_move rfl) rfl rfl rfl ?_
      refine st (ev_move rfl) rfl rfl rfl ?_
      refine st (ev_neq rfl rfl) rfl rfl rfl ?_
      refine st (ev_pick_f rfl rfl) rfl rfl rfl ?_
      refine op_nil ?_
      refine ax_then ?_
      refine At.regs (L' := [(1, _), (2, _), (3, _), (9, _), (10, _), (11, _), (12, _), (13, _), (14, _), (15, _), (16, _), (17, _), (18, _), (19, _), (20, _), (21, _), (22, _), (23, _), (45, _), (46, _), (47, _), (48, _), (51, _), (52, _), (53, _), (54, _), (55, _), (56, _), (57, _), (58, _), (59, _), (60, _), (61, _), (62, _), (63, _), (64, _), (65, _), (66, _), (67, _), (68, _), (69, _), (70, _), (71, _), (72, _), (73, _), (74, _), (75, _), (76, _), (77, _), (78, _), (79, _), (80, _), (81, _), (82, _), (83, _), (84, _), (85, _), (86, _), (87, _), (88, _), (89, _), (90, _), (91, _), (92, _), (93, _), (94, _), (95, _), (96, _), (97, _), (98, _), (99, _), (100, _), (101, _), (102, _), (103, _), (104, _), (105, _), (106, _), (107, _), (108, _), (109, _), (110, _), (111, _), (112, _), (113, _), (114, _), (115, _), (116, _), (117, _), (118, _), (119, _), (120, _), (121, _), (122, _), (123, _), (124, _), (125, _), (126, _), (127, _), (128, _), (129, _), (130, _), (131, _), (132, _), (133, _), (134, _), (135, _), (136, _), (137, _), (138, _), (139, _), (140, _), (141, _), (142, _), (143, _), (144, _), (145, _), (146, _), (147, _), (148, _), (149, _), (150, _), (151, _), (152, _), (153, _), (154, _), (155, _)]) (.cons rfl (.cons rfl (.cons rfl (.cons rfl (.cons rfl (.cons rfl (.cons rfl (.cons rfl (.cons rfl (.cons rfl (.cons rfl (.cons rfl (.cons rfl (.cons rfl (.cons rfl (.cons rfl (.cons rfl (.cons rfl (.cons rfl (.cons rfl (.cons rfl (.cons rfl (.cons rfl (.cons rfl (.cons rfl (.cons rfl (.cons rfl (.cons rfl (.cons rfl (.cons rfl (.cons rfl (.cons rfl (.cons rfl (.cons rfl (.cons rfl (.cons rfl (.cons rfl (.cons rfl (.cons rfl (.cons rfl (.cons rfl (.cons rfl (.cons rfl (.cons rfl (.cons rfl (.cons rfl (.cons rfl (.cons rfl (.cons rfl (.cons rfl (.cons rfl (.cons rfl (.cons rfl (.cons rfl (.cons rfl (.cons rfl (.cons rfl (.cons rfl (.cons rfl (.cons rfl (.cons rfl (.cons rfl (.cons rfl (.cons rfl (.cons rfl (.cons rfl (.cons rfl (.cons rfl (.cons rfl (.cons rfl (.cons rfl (.cons rfl (.cons rfl (.cons rfl (.cons rfl (.cons rfl (.cons rfl (.cons rfl (.cons rfl (.cons rfl (.cons rfl (.cons rfl (.cons rfl (.cons rfl (.cons rfl (.cons rfl (.cons rfl (.cons rfl (.cons rfl (.cons rfl (.cons rfl (.cons rfl (.cons rfl (.cons rfl (.cons rfl (.cons rfl (.cons rfl (.cons rfl (.cons rfl (.cons rfl (.cons rfl (.cons rfl (.cons rfl (.cons rfl (.cons rfl (.cons rfl (.cons rfl (.cons rfl (.cons rfl (.cons rfl (.cons rfl (.cons rfl (.cons rfl (.cons rfl (.cons rfl (.cons rfl (.cons rfl (.cons rfl (.cons rfl (.cons rfl (.cons rfl (.cons rfl (.cons rfl (.cons rfl (.cons rfl (.cons rfl (.cons rfl (.nil _)))))))))))))))))))))))))))))))))))))))))))))))))))))))))))))))))))))))))))))))))))))))))))))))))))))))))))))))))))))))))))))))) ?_
      refine cd_if_f rfl (fun h => h (congrArg Prod.snd (Ck.chk_two s n (ns.getD i 0) t va58 vb58 va68 vb68 (Ky.keyPub s) o))) ?_
      refine cd_skip ?_
      refine ax_block ?_
      refine ax_then ?_
      refine At.regs (L' := [(1, _), (2, _), (3, _), (9, _), (10, _), (11, _), (12, _), (13, _), (14, _), (15, _), (16, _), (17, _), (18, _), (19, _), (20, _), (21, _), (22, _), (23, _), (45, _), (46, _), (47, _), (48, _), (51, _), (52, _), (53, _), (54, _), (55, _), (56, _), (57, _), (58, _), (59, _), (60, _), (61, _), (62, _), (63, _), (64, _), (65, _), (66, _), (67, _), (68, _), (69, _), (70, _), (71, _), (72, _), (73, _), (74, _), (75, _), (76, _), (77, _), (78, _), (79, _), (80, _), (81, _), (82, _), (83, _), (84, _), (85, _), (86, _), (87, _), (88, _), (89, _), (90, _), (91, _), (92, _), (93, _), (94, _), (95, _), (96, _), (97, _), (98, _), (99, _), (100, _), (101, _), (102, _), (103, _), (104, _), (105, _), (106, _), (107, _), (108, _), (109, _), (110, _), (111, _), (112, _), (113, _), (114, _), (115, _), (116, _), (117, _), (118, _), (119, _), (120, _), (121, _), (122, _), (123, _), (124, _), (125, _), (126, _), (127, _), (128, _), (129, _), (130, _), (131, _), (132, _), (133, _), (134, _), (135, _), (136, _), (137, _), (138, _), (139, _), (140, _), (141, _), (142, _), (143, _), (144, _), (145, _), (146, _), (147, _), (148, _), (149, _), (150, _), (151, _), (152, _), (153, _), (154, _), (155, _)]) (.cons rfl (.cons rfl (.cons rfl (.cons rfl (.cons rfl (.cons rfl (.cons rfl (.cons rfl (.cons rfl (.cons rfl (.cons rfl (.cons rfl (.cons rfl (.cons rfl (.cons rfl (.cons rfl (.cons rfl (.cons rfl (.cons rfl (.cons rfl (.cons rfl (.cons rfl (.cons rfl (.cons rfl (.cons rfl (.cons rfl (.cons rfl (.cons rfl (.cons rfl (.cons rfl (.cons rfl (.cons rfl (.cons rfl (.cons rfl (.cons rfl (.cons rfl (.cons rfl (.cons rfl (.cons rfl (.cons rfl (.cons rfl (.cons rfl (.cons rfl (.cons rfl (.cons rfl (.cons rfl (.cons rfl (.cons rfl (.cons rfl (.cons rfl (.cons rfl (.cons rfl (.cons rfl (.cons rfl (.cons rfl (.cons rfl (.cons rfl (.cons rfl (.cons rfl (.cons rfl (.cons rfl (.cons rfl (.cons rfl (.cons rfl (.cons rfl (.cons rfl (.cons rfl (.cons rfl (.cons rfl (.cons rfl (.cons rfl (.cons rfl (.cons rfl (.cons rfl (.cons rfl (.cons rfl (.cons rfl (.cons rfl (.cons rfl (.cons rfl (.cons rfl (.cons rfl (.cons rfl (.cons rfl (.cons rfl (.cons rfl (.cons rfl (.cons rfl (.cons rfl (.cons rfl (.cons rfl (.cons rfl (.cons rfl (.cons rfl (.cons rfl (.cons rfl (.cons rfl (.cons rfl (.cons rfl (.cons rfl (.cons rfl (.cons rfl (.cons rfl (.cons rfl (.cons rfl (.cons rfl (.cons rfl (.cons rfl (.cons rfl (.cons rfl (.cons rfl (.cons rfl (.cons rfl (.cons rfl (.cons rfl (.cons rfl (.cons rfl (.cons rfl (.cons rfl (.cons rfl (.cons rfl (.cons rfl (.cons rfl (.cons rfl (.cons rfl (.cons rfl (.cons rfl (.nil _)))))))))))))))))))))))))))))))))))))))))))))))))))))))))))))))))))))))))))))))))))))))))))))))))))))))))))))))))))))))))))))))) ?_
      refine cd_region ?_
      refine st (ev_move rfl) rfl rfl rfl ?_
      refine st (ev_add64 rfl rfl (by omega) (by omega)) rfl rfl rfl ?_
      refine st (ev_assign rfl) rfl rfl rfl ?_
      refine op_nil ?_
      exact at_again ((i + 1, Ck.nxt n (ns.getD i 0) t)) (⟨by show i + 1 ≤ ns.length; omega, Ck.nxt_le _ _ hi.2⟩) (by omega) (.cons rfl (.cons rfl (.cons rfl (.cons rfl (.cons rfl (.cons rfl (.nil _))))))) (.cons rfl (.cons rfl (.cons rfl (.cons rfl (.nil _))))) (.cons rfl (.cons rfl (.cons rfl (.nil _))))
    ·
      refine cd_exit ?_
      refine ax_then_exit ?_
      refine ax_then_exit ?_
      refine ax_block_hit ?_
      refine ax_then ?_
      refine At.regs (L' := []) (.nil _) ?_
      refine cd_seq ?_
      refine cd_region ?_
      refine st_callv has30 rfl (fun w1 sw => known18_any w1) rfl rfl ?_
      refine st (ev_assign rfl) rfl rfl rfl ?_
      refine op_nil ?_
      refine ax_then ?_
      refine At.regs (L' := [(8, _)]) (.cons rfl (.nil _)) ?_
      refine cd_ret ?_
      refine rt_tmp (.inl rfl) Try.results7 rfl ?_
      exact fun w1 sw => ⟨rfl, sw.gives (.nil _)⟩
end Go.Proofs.Ytgfnmolbagilmaa

namespace Go.Proofs.Ytgfnmolbagilmaa
open Go Go.ChangeShapes Go.WideShapes Go.ChangeAt Go.RowKit Fw
set_option linter.unusedVariables false
theorem laid : laidOutB Try.prog = true := by kernel_rfl
namespace clockPlays
theorem own : ownKnob Try.prog.godebug = none := by kernel_rfl
set_option maxRecDepth 100000 in
theorem lifted (os : Os) (started : os.Started) (H : Type) (enc : TypeId × Value → H) :
    ReturnsInHanded {} Try.checked os 7 .any (Rows.clockPlaysSpec.pre6 enc Try.prog Try.f7 Rows.clockPlaysRow.domain false) (Rows.clockPlaysSpec.post enc Try.prog Try.f7 false true false false) := by
  refine returnsInHanded_of_change_sized (C := Try.checked) own started (by kernel_rfl) Try.func7
    (ChangeSpec.witness6 (enc := enc) (C := Try.checked) false ⟨#[], #[.agg #[.int .u8 0, .int .u8 0, .int .u8 0, .int .u8 0, .int .u8 0, .int .u8 0, .int .u8 0, .int .u8 0, .int .u8 0, .int .u8 0, .int .u8 0, .int .u8 0, .int .u8 0, .int .u8 0, .int .u8 0, .int .u8 0, .int .u8 0, .int .u8 0, .int .u8 0, .int .u8 0, .int .u8 0, .int .u8 0, .int .u8 0, .int .u8 0, .int .u8 0, .int .u8 0, .int .u8 0, .int .u8 0, .int .u8 0, .int .u8 0, .int .u8 0, .int .u8 0], .slice none 0 0, .int .i64 0, .int .i64 0], []⟩ 8 (by kernel_rfl) (by kernel_rfl) (by kernel_rfl) (by kernel_rfl)) ?_
  intro W base args ds gs before hval0 hW hcnd hsz _
  have hval : ∀ (j : Nat) t v, Try.f7.params[j]? = some t → args[j]? = some v → Value.okWide Try.prog W .any base t v := hval0
  have hW' := hW
  obtain ⟨p, q, hA0, hV, rfl, hfz, hnd⟩ := hW
  have hA : DataW.TrodAll enc Try.prog W 0 (fun _ => true) true Try.f7.params.toList args.toList ds p := hA0
  have hk := hA
  have hlt : ∀ x ∈ p, x.block < W.heap.size := fun x hx => hW'.lt x (List.mem_append.2 (.inl hx))
  rw [Try.params7] at hA hval hk
  obtain ⟨v0, vs0, d0, ds0, p0, q0, hargs, rfl, rfl, h0, r0⟩ := trodAll_cons hA
  obtain ⟨v1, vs1, d1, ds1, p1, q1, rfl, rfl, rfl, h1, r1⟩ := trodAll_cons r0
  obtain ⟨v2, vs2, d2, ds2, p2, q2, rfl, rfl, rfl, h2, r2⟩ := trodAll_cons r1
  obtain ⟨v3, vs3, d3, ds3, p3, q3, rfl, rfl, rfl, h3, r3⟩ := trodAll_cons r2
  obtain ⟨rfl, rfl, rfl⟩ := trodAll_nil r3
  obtain rfl : args = #[v0, v1, v2, v3] := by cases args; simp_all
  obtain ⟨rfl, rfl⟩ := trodVars_none hV
  obtain ⟨l0, rfl, m0, b0⟩ := open_arr Try.underlying55 Try.underlying5 (by kernel_rfl) (by kernel_rfl) (hval 0 55 v0 rfl rfl) h0 (light_of (j := 0) hsz rfl rfl)
  obtain ⟨l1, rd1, m1, b1⟩ := rd_ints Try.underlying49 Try.underlying3 (by kernel_rfl) (hval 1 49 v1 rfl rfl) h1 (light_of (j := 1) hsz rfl rfl)
  have len1 : l1.length ≤ 140737488351232 := by
    have h := m1
    rw [show Try.prog.bytesOf 3 = 8 from by kernel_rfl] at h
    have hr : reachBytes = 140737488351232 := rfl
    omega
  obtain ⟨a2, rfl, _, _, w2⟩ := open_int Try.underlying3 (hval 2 3 v2 rfl rfl) h2
  obtain ⟨a3, rfl, _, _, w3⟩ := open_int Try.underlying3 (hval 3 3 v3 rfl rfl) h3
  refine (clockPlays_any l0 v1 l1 a2 a3 W m0 len1 rd1).mono fun e W' ⟨he, g⟩ => ?_
  subst he
  have bel := g.below
  exact ⟨_, rfl, _, _, _, [], _, [], hW', trodAll_mk1 (shut_bool Try.underlying4 _), all_below laid bel _ _ _ _ (all_rows (by kernel_rfl)) hk hlt (fun x hx => by simpa using hlt x hx), rfl, bel.frame _, fun h => by cases h⟩
theorem over : Rows.clockPlaysRow.holds Try.pinned (OpenSpec.ofChange Rows.clockPlaysSpec) :=
  OpenClaim.holds_of_wide 7 Try.f7 rfl rfl rfl rfl rfl rfl rfl ⟨rfl, rfl, rfl, rfl, rfl⟩ rfl rfl rfl rfl rfl (by kernel_rfl) Try.func7 (by kernel_rfl)
    (of_decide_eq_true (by kernel_rfl)) (by unfold Func.isWrapper; first | (rw [if_pos (by decide +kernel)]; kernel_rfl) | (rw [if_neg (by decide +kernel)]; exact ⟨rfl, rfl⟩))
    (fun os started H enc _ => lifted os started H enc)
/-- The statement. -/
theorem proved : Rows.ClockPlaysSaid := over
end clockPlays
namespace clockForged
theorem own : ownKnob Try.prog.godebug = none := by kernel_rfl
set_option maxRecDepth 100000 in
theorem lifted (os : Os) (started : os.Started) (H : Type) (enc : TypeId × Value → H) :
    ReturnsInHanded {} Try.checked os 8 .any (Rows.clockForgedSpec.pre6 enc Try.prog Try.f8 Rows.clockForgedRow.domain false) (Rows.clockForgedSpec.post enc Try.prog Try.f8 false true false false) := by
  refine returnsInHanded_of_change_sized (C := Try.checked) own started (by kernel_rfl) Try.func8
    (ChangeSpec.witness6 (enc := enc) (C := Try.checked) false ⟨#[], #[.agg #[.int .u8 0, .int .u8 0, .int .u8 0, .int .u8 0, .int .u8 0, .int .u8 0, .int .u8 0, .int .u8 0, .int .u8 0, .int .u8 0, .int .u8 0, .int .u8 0, .int .u8 0, .int .u8 0, .int .u8 0, .int .u8 0, .int .u8 0, .int .u8 0, .int .u8 0, .int .u8 0, .int .u8 0, .int .u8 0, .int .u8 0, .int .u8 0, .int .u8 0, .int .u8 0, .int .u8 0, .int .u8 0, .int .u8 0, .int .u8 0, .int .u8 0, .int .u8 0], .int .i64 0, .int .i64 0, .int .i64 0, .int .u8 0], []⟩ 8 (by kernel_rfl) (by kernel_rfl) (by kernel_rfl) (by kernel_rfl)) ?_
  intro W base args ds gs before hval0 hW hcnd hsz _
  have hval : ∀ (j : Nat) t v, Try.f8.params[j]? = some t → args[j]? = some v → Value.okWide Try.prog W .any base t v := hval0
  have hW' := hW
  obtain ⟨p, q, hA0, hV, rfl, hfz, hnd⟩ := hW
  have hA : DataW.TrodAll enc Try.prog W 0 (fun _ => true) true Try.f8.params.toList args.toList ds p := hA0
  have hk := hA
  have hlt : ∀ x ∈ p, x.block < W.heap.size := fun x hx => hW'.lt x (List.mem_append.2 (.inl hx))
  rw [Try.params8] at hA hval hk
  obtain ⟨v0, vs0, d0, ds0, p0, q0, hargs, rfl, rfl, h0, r0⟩ := trodAll_cons hA
  obtain ⟨v1, vs1, d1, ds1, p1, q1, rfl, rfl, rfl, h1, r1⟩ := trodAll_cons r0
  obtain ⟨v2, vs2, d2, ds2, p2, q2, rfl, rfl, rfl, h2, r2⟩ := trodAll_cons r1
  obtain ⟨v3, vs3, d3, ds3, p3, q3, rfl, rfl, rfl, h3, r3⟩ := trodAll_cons r2
  obtain ⟨v4, vs4, d4, ds4, p4, q4, rfl, rfl, rfl, h4, r4⟩ := trodAll_cons r3
  obtain ⟨rfl, rfl, rfl⟩ := trodAll_nil r4
  obtain rfl : args = #[v0, v1, v2, v3, v4] := by cases args; simp_all
  obtain ⟨rfl, rfl⟩ := trodVars_none hV
  obtain ⟨l0, rfl, m0, b0⟩ := open_arr Try.underlying55 Try.underlying5 (by kernel_rfl) (by kernel_rfl) (hval 0 55 v0 rfl rfl) h0 (light_of (j := 0) hsz rfl rfl)
  obtain ⟨a1, rfl, _, _, w1⟩ := open_int Try.underlying3 (hval 1 3 v1 rfl rfl) h1
  obtain ⟨a2, rfl, _, _, w2⟩ := open_int Try.underlying3 (hval 2 3 v2 rfl rfl) h2
  obtain ⟨a3, rfl, _, _, w3⟩ := open_int Try.underlying3 (hval 3 3 v3 rfl rfl) h3
  obtain ⟨a4, rfl, _, _, w4⟩ := open_int Try.underlying5 (hval 4 5 v4 rfl rfl) h4
  refine (clockForged_any l0 a1 a2 a3 a4 W m0).mono fun e W' ⟨he, g⟩ => ?_
  subst he
  have bel := g.below
  exact ⟨_, rfl, _, _, _, [], _, [], hW', trodAll_mk1 (shut_bool Try.underlying4 _), all_below laid bel _ _ _ _ (all_rows (by kernel_rfl)) hk hlt (fun x hx => by simpa using hlt x hx), rfl, bel.frame _, fun h => by cases h⟩
theorem over : Rows.clockForgedRow.holds Try.pinned (OpenSpec.ofChange Rows.clockForgedSpec) :=
  OpenClaim.holds_of_wide 8 Try.f8 rfl rfl rfl rfl rfl rfl rfl ⟨rfl, rfl, rfl, rfl, rfl⟩ rfl rfl rfl rfl rfl (by kernel_rfl) Try.func8 (by kernel_rfl)
    (of_decide_eq_true (by kernel_rfl)) (by unfold Func.isWrapper; first | (rw [if_pos (by decide +kernel)]; kernel_rfl) | (rw [if_neg (by decide +kernel)]; exact ⟨rfl, rfl⟩))
    (fun os started H enc _ => lifted os started H enc)
/-- The statement. -/
theorem proved : Rows.ClockForgedSaid := over
end clockForged
namespace clockUsed
theorem own : ownKnob Try.prog.godebug = none := by kernel_rfl
set_option maxRecDepth 100000 in
theorem lifted (os : Os) (started : os.Started) (H : Type) (enc : TypeId × Value → H) :
    ReturnsInHanded {} Try.checked os 9 .any (Rows.clockUsedSpec.pre6 enc Try.prog Try.f9 Rows.clockUsedRow.domain false) (Rows.clockUsedSpec.post enc Try.prog Try.f9 false true false false) := by
  refine returnsInHanded_of_change_sized (C := Try.checked) own started (by kernel_rfl) Try.func9
    (ChangeSpec.witness6 (enc := enc) (C := Try.checked) false ⟨#[], #[.int .i64 0], []⟩ 8 (by kernel_rfl) (by kernel_rfl) (by kernel_rfl) (by kernel_rfl)) ?_
  intro W base args ds gs before hval0 hW hcnd hsz _
  have hval : ∀ (j : Nat) t v, Try.f9.params[j]? = some t → args[j]? = some v → Value.okWide Try.prog W .any base t v := hval0
  have hW' := hW
  obtain ⟨p, q, hA0, hV, rfl, hfz, hnd⟩ := hW
  have hA : DataW.TrodAll enc Try.prog W 0 (fun _ => true) true Try.f9.params.toList args.toList ds p := hA0
  have hk := hA
  have hlt : ∀ x ∈ p, x.block < W.heap.size := fun x hx => hW'.lt x (List.mem_append.2 (.inl hx))
  rw [Try.params9] at hA hval hk
  obtain ⟨v0, vs0, d0, ds0, p0, q0, hargs, rfl, rfl, h0, r0⟩ := trodAll_cons hA
  obtain ⟨rfl, rfl, rfl⟩ := trodAll_nil r0
  obtain rfl : args = #[v0] := by cases args; simp_all
  obtain ⟨rfl, rfl⟩ := trodVars_none hV
  obtain ⟨a0, rfl, _, _, w0⟩ := open_int Try.underlying3 (hval 0 3 v0 rfl rfl) h0
  refine (clockUsed_any a0 W).mono fun e W' ⟨he, g⟩ => ?_
  subst he
  have bel := g.below
  exact ⟨_, rfl, _, _, _, [], _, [], hW', trodAll_mk1 (shut_bool Try.underlying4 _), all_below laid bel _ _ _ _ (all_rows (by kernel_rfl)) hk hlt (fun x hx => by simpa using hlt x hx), rfl, bel.frame _, fun h => by cases h⟩
theorem over : Rows.clockUsedRow.holds Try.pinned (OpenSpec.ofChange Rows.clockUsedSpec) :=
  OpenClaim.holds_of_wide 9 Try.f9 rfl rfl rfl rfl rfl rfl rfl ⟨rfl, rfl, rfl, rfl, rfl⟩ rfl rfl rfl rfl rfl (by kernel_rfl) Try.func9 (by kernel_rfl)
    (of_decide_eq_true (by kernel_rfl)) (by unfold Func.isWrapper; first | (rw [if_pos (by decide +kernel)]; kernel_rfl) | (rw [if_neg (by decide +kernel)]; exact ⟨rfl, rfl⟩))
    (fun os started H enc _ => lifted os started H enc)
/-- The statement. -/
theorem proved : Rows.ClockUsedSaid := over
end clockUsed
namespace clockNonces
theorem own : ownKnob Try.prog.godebug = none := by kernel_rfl
set_option maxRecDepth 100000 in
theorem lifted (os : Os) (started : os.Started) (H : Type) (enc : TypeId × Value → H) :
    ReturnsInHanded {} Try.checked os 10 .any (Rows.clockNoncesSpec.pre6 enc Try.prog Try.f10 Rows.clockNoncesRow.domain false) (Rows.clockNoncesSpec.post enc Try.prog Try.f10 false true false false) := by
  refine returnsInHanded_of_change_sized (C := Try.checked) own started (by kernel_rfl) Try.func10
    (ChangeSpec.witness6 (enc := enc) (C := Try.checked) false ⟨#[], #[.agg #[.int .u8 0, .int .u8 0, .int .u8 0, .int .u8 0, .int .u8 0, .int .u8 0, .int .u8 0, .int .u8 0, .int .u8 0, .int .u8 0, .int .u8 0, .int .u8 0, .int .u8 0, .int .u8 0, .int .u8 0, .int .u8 0, .int .u8 0, .int .u8 0, .int .u8 0, .int .u8 0, .int .u8 0, .int .u8 0, .int .u8 0, .int .u8 0, .int .u8 0, .int .u8 0, .int .u8 0, .int .u8 0, .int .u8 0, .int .u8 0, .int .u8 0, .int .u8 0], .int .i64 0, .int .i64 0, .int .i64 0], []⟩ 8 (by kernel_rfl) (by kernel_rfl) (by kernel_rfl) (by kernel_rfl)) ?_
  intro W base args ds gs before hval0 hW hcnd hsz _
  have hval : ∀ (j : Nat) t v, Try.f10.params[j]? = some t → args[j]? = some v → Value.okWide Try.prog W .any base t v := hval0
  have hW' := hW
  obtain ⟨p, q, hA0, hV, rfl, hfz, hnd⟩ := hW
  have hA : DataW.TrodAll enc Try.prog W 0 (fun _ => true) true Try.f10.params.toList args.toList ds p := hA0
  have hk := hA
  have hlt : ∀ x ∈ p, x.block < W.heap.size := fun x hx => hW'.lt x (List.mem_append.2 (.inl hx))
  rw [Try.params10] at hA hval hk
  obtain ⟨v0, vs0, d0, ds0, p0, q0, hargs, rfl, rfl, h0, r0⟩ := trodAll_cons hA
  obtain ⟨v1, vs1, d1, ds1, p1, q1, rfl, rfl, rfl, h1, r1⟩ := trodAll_cons r0
  obtain ⟨v2, vs2, d2, ds2, p2, q2, rfl, rfl, rfl, h2, r2⟩ := trodAll_cons r1
  obtain ⟨v3, vs3, d3, ds3, p3, q3, rfl, rfl, rfl, h3, r3⟩ := trodAll_cons r2
  obtain ⟨rfl, rfl, rfl⟩ := trodAll_nil r3
  obtain rfl : args = #[v0, v1, v2, v3] := by cases args; simp_all
  obtain ⟨rfl, rfl⟩ := trodVars_none hV
  obtain ⟨l0, rfl, m0, b0⟩ := open_arr Try.underlying55 Try.underlying5 (by kernel_rfl) (by kernel_rfl) (hval 0 55 v0 rfl rfl) h0 (light_of (j := 0) hsz rfl rfl)
  obtain ⟨a1, rfl, _, _, w1⟩ := open_int Try.underlying3 (hval 1 3 v1 rfl rfl) h1
  obtain ⟨a2, rfl, _, _, w2⟩ := open_int Try.underlying3 (hval 2 3 v2 rfl rfl) h2
  obtain ⟨a3, rfl, _, _, w3⟩ := open_int Try.underlying3 (hval 3 3 v3 rfl rfl) h3
  refine (clockNonces_any l0 a1 a2 a3 W m0).mono fun e W' ⟨he, g⟩ => ?_
  subst he
  have bel := g.below
  exact ⟨_, rfl, _, _, _, [], _, [], hW', trodAll_mk1 (shut_bool Try.underlying4 _), all_below laid bel _ _ _ _ (all_rows (by kernel_rfl)) hk hlt (fun x hx => by simpa using hlt x hx), rfl, bel.frame _, fun h => by cases h⟩
theorem over : Rows.clockNoncesRow.holds Try.pinned (OpenSpec.ofChange Rows.clockNoncesSpec) :=
  OpenClaim.holds_of_wide 10 Try.f10 rfl rfl rfl rfl rfl rfl rfl ⟨rfl, rfl, rfl, rfl, rfl⟩ rfl rfl rfl rfl rfl (by kernel_rfl) Try.func10 (by kernel_rfl)
    (of_decide_eq_true (by kernel_rfl)) (by unfold Func.isWrapper; first | (rw [if_pos (by decide +kernel)]; kernel_rfl) | (rw [if_neg (by decide +kernel)]; exact ⟨rfl, rfl⟩))
    (fun os started H enc _ => lifted os started H enc)
/-- The statement. -/
theorem proved : Rows.ClockNoncesSaid := over
end clockNonces
namespace clockBounds
theorem own : ownKnob Try.prog.godebug = none := by kernel_rfl
set_option maxRecDepth 100000 in
theorem lifted (os : Os) (started : os.Started) (H : Type) (enc : TypeId × Value → H) :
    ReturnsInHanded {} Try.checked os 11 .any (Rows.clockBoundsSpec.pre6 enc Try.prog Try.f11 Rows.clockBoundsRow.domain false) (Rows.clockBoundsSpec.post enc Try.prog Try.f11 false true false false) := by
  refine returnsInHanded_of_change_sized (C := Try.checked) own started (by kernel_rfl) Try.func11
    (ChangeSpec.witness6 (enc := enc) (C := Try.checked) false ⟨#[], #[.int .i64 0, .int .i64 0], []⟩ 8 (by kernel_rfl) (by kernel_rfl) (by kernel_rfl) (by kernel_rfl)) ?_
  intro W base args ds gs before hval0 hW hcnd hsz _
  have hval : ∀ (j : Nat) t v, Try.f11.params[j]? = some t → args[j]? = some v → Value.okWide Try.prog W .any base t v := hval0
  have hW' := hW
  obtain ⟨p, q, hA0, hV, rfl, hfz, hnd⟩ := hW
  have hA : DataW.TrodAll enc Try.prog W 0 (fun _ => true) true Try.f11.params.toList args.toList ds p := hA0
  have hk := hA
  have hlt : ∀ x ∈ p, x.block < W.heap.size := fun x hx => hW'.lt x (List.mem_append.2 (.inl hx))
  rw [Try.params11] at hA hval hk
  obtain ⟨v0, vs0, d0, ds0, p0, q0, hargs, rfl, rfl, h0, r0⟩ := trodAll_cons hA
  obtain ⟨v1, vs1, d1, ds1, p1, q1, rfl, rfl, rfl, h1, r1⟩ := trodAll_cons r0
  obtain ⟨rfl, rfl, rfl⟩ := trodAll_nil r1
  obtain rfl : args = #[v0, v1] := by cases args; simp_all
  obtain ⟨rfl, rfl⟩ := trodVars_none hV
  obtain ⟨a0, rfl, _, _, w0⟩ := open_int Try.underlying3 (hval 0 3 v0 rfl rfl) h0
  obtain ⟨a1, rfl, _, _, w1⟩ := open_int Try.underlying3 (hval 1 3 v1 rfl rfl) h1
  refine (clockBounds_any a0 a1 W).mono fun e W' ⟨he, g⟩ => ?_
  subst he
  have bel := g.below
  exact ⟨_, rfl, _, _, _, [], _, [], hW', trodAll_mk1 (shut_bool Try.underlying4 _), all_below laid bel _ _ _ _ (all_rows (by kernel_rfl)) hk hlt (fun x hx => by simpa using hlt x hx), rfl, bel.frame _, fun h => by cases h⟩
theorem over : Rows.clockBoundsRow.holds Try.pinned (OpenSpec.ofChange Rows.clockBoundsSpec) :=
  OpenClaim.holds_of_wide 11 Try.f11 rfl rfl rfl rfl rfl rfl rfl ⟨rfl, rfl, rfl, rfl, rfl⟩ rfl rfl rfl rfl rfl (by kernel_rfl) Try.func11 (by kernel_rfl)
    (of_decide_eq_true (by kernel_rfl)) (by unfold Func.isWrapper; first | (rw [if_pos (by decide +kernel)]; kernel_rfl) | (rw [if_neg (by decide +kernel)]; exact ⟨rfl, rfl⟩))
    (fun os started H enc _ => lifted os started H enc)
/-- The statement. -/
theorem proved : Rows.ClockBoundsSaid := over
end clockBounds
end Go.Proofs.Ytgfnmolbagilmaa
