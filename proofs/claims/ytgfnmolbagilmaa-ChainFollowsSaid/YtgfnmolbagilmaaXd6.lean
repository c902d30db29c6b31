/- The statement's proof, part 6: what its walks and its plain laws need. -/
import Derived.Test.YtgfnmolbagilmaaRows
import Derived.Tactics
import Derived.Deep.Quiet
import Derived.StillTail
import Derived.Laws.World
import Derived.Laws.Sem
import Derived.Laws.Entries
import Derived.Below
import Derived.Deep.LoopGhost
import Derived.Laws.BytesString
import Derived.Laws.IdiomStrings
import Derived.KernelRfl
import Derived.Carry
import Derived.OpenShut
import Derived.ProofKit
import Derived.ChangeSame
import Derived.HandedShaped
import Derived.SizedLaws
import Derived.Test.YtgfnmolbagilmaaProg
import Derived.Laws.Strings
import Derived.Test.YtgfnmolbagilmaaXd5
namespace Go.Proofs.Ytgfnmolbagilmaa
open Go Go.RowKit Fw
open Sha
open Ots
open Mk
set_option linter.unusedVariables false
set_option linter.unusedSimpArgs false
set_option maxRecDepth 20000 in
set_option maxHeartbeats 4000000 in
theorem qhash6_any (b : Nat) (rv : Value) (bad : Bool) (r : List Int) (w : World) (hb : w.heap[b]? = some (.cells (List.toArray [rv, .bool bad]) 112)) (h : Rd w rv 1 (ints .u8 r)) (ho : FE.off b (.sl rv 1 (ints .u8 r))) (hr : r.length ≤ 140737488352000) (he : bad = true → r = []) : Calls Try.prog 93 #[.pointer (some ⟨b, 0, none⟩)] w (Post (ι := Value) w [b] (fun x => Rr.Und rv r x (Ky.rawRest r)) (fun _ => .agg (ints .u8 (Ky.hashOf r)).toArray) (fun x => [(0, .blk (b) (.cells ([x, .bool (bad || decide (r.length < 32))]).toArray 112))])) := by
  have hro := Ky.rawOut_len r
  have hhl := Ky.hashOf_len r
  refine calls_at (vs := [.pointer (some ⟨b, 0, none⟩)]) (X := [b]) (H := [(0, .blk (b) (.cells ([rv, .bool (bad)]).toArray 112))]) (F := [(1, .sl rv 1 (ints .u8 r))]) 9 Try.func93 rfl rfl rfl ((Sat.blkX 0 hb).readb (f := .sl rv 1 (ints .u8 r)) 1 h ho) ?_
  refine cd_seq ?_
  refine cd_region ?_
  refine st_alloc (h := 2) ty55 rfl rfl rfl (fun b2 => ?_)
  refine op_nil ?_
  refine ax_then ?_
  refine At.regs (L' := [(0, _), (2, _)]) (.cons rfl (.cons rfl (.nil _))) ?_
  refine cd_seq ?_
  refine cd_region ?_
  refine st_alloc (h := 3) ty55 rfl rfl rfl (fun b3 => ?_)
  refine op_nil ?_
  refine ax_then ?_
  refine At.regs (L' := [(0, _), (2, _), (3, _)]) (.cons rfl (.cons rfl (.cons rfl (.nil _)))) ?_
  refine cd_seq ?_
  refine cd_mix hmix ?_
  refine mx (i := 0) rfl (by decide +kernel) (by decide +kernel) (by decide +kernel) rfl (fun w0 => ev_slice_arr_all Try.underlying55 ty5 rfl) rfl rfl (Sub.refl _) ?_
  refine mx (i := 1) rfl (by decide +kernel) (by decide +kernel) (by decide +kernel) rfl (fun w0 => ev_move rfl) rfl rfl (Sub.refl _) ?_
  refine mx_one (i := 2) (by decide +kernel) (Sub.refl _) ?_
  refine wo (i := 2) rfl ?_
  refine st_call has83 rfl (fun w1 sw => rn2 0 6 (qraw_g b rv bad r w1 (sw.blk_eq (h := 0) rfl) (sw.sl_rd (h := 1) rfl) (sw.off 1 _ 0 _ rfl rfl _ (by simp [Ent.ids])) (by omega) he 32)) (mod_blk2 rfl) rfl rfl (fun x6 hx6 => ?_)
  obtain ⟨vd, vo⟩ := x6
  dsimp only at hx6 ⊢
  rw [(Rr.rOut_32 r).2.1] at hx6
  refine at_heq (i := 6) (v' := .own (vo) 5 1 (ints .u8 (Ky.rawOut r))) rfl (by rw [(Rr.rOut_32 r).1]) ?_
  refine at_heq (i := 0) (v' := .blk (b) (.cells ([vd, .bool (bad || decide (r.length < 32))]).toArray 112)) rfl (by rw [(Rr.rOut_32 r).2.2]) ?_
  refine op_nil ?_
  refine ax_then ?_
  refine mx_one (i := 3) (by decide +kernel) (Sub.refl _) ?_
  refine wo (i := 3) rfl ?_
  refine st_copy (n := (Ky.rawOut r).length) 3 Try.underlying28 ty5 rfl rfl rfl (fun w1 sw => sw.own_rd (h := 6) rfl) (by decide) (by rw [ints_length, Nat.mul_one]) (by rw [ints_length, List.length_replicate]; decide) (ints_one _ _) rfl rfl ?_
  refine at_heq (i := 3) (v' := .blk b3 (.cells (ints .u8 (Ky.hashOf r)).toArray 55)) rfl (by rw [Ky.hash_copy]) ?_
  refine op_nil ?_
  refine ax_then ?_
  refine mx_done (by decide +kernel) (Sub.refl _) ?_
  refine ax_then ?_
  refine At.regs (L' := [(2, _), (3, _)]) (.cons rfl (.cons rfl (.nil _))) ?_
  refine cd_seq ?_
  refine cd_region ?_
  refine st (ld_blk_all (h := 3) ty55 rfl rfl rfl (by first | omega | (simp only [List.length_append, List.length_cons, List.length_nil, List.length_set, List.length_replicate, List.length_take, List.length_drop, ints_length, wr_length, sha_len, node_len, recov_len, Ky.named_len, Ky.keyPub_len, Ky.hashOf_len] <;> omega) | rfl)) rfl rfl rfl ?_
  refine st_store_all 2 ty55 rfl rfl rfl rfl (by first | omega | (simp only [List.length_append, List.length_cons, List.length_nil, List.length_set, List.length_replicate, List.length_take, List.length_drop, ints_length, wr_length, sha_len, node_len, recov_len, Ky.named_len, Ky.keyPub_len, Ky.hashOf_len] <;> omega) | rfl) (ints_one _ _) (by first | omega | (simp only [List.length_append, List.length_cons, List.length_nil, List.length_set, List.length_replicate, List.length_take, List.length_drop, ints_length, wr_length, sha_len, node_len, recov_len, Ky.named_len, Ky.keyPub_len, Ky.hashOf_len] <;> omega) | rfl) rfl ?_
  refine op_nil ?_
  refine ax_then ?_
  refine At.regs (L' := [(2, _)]) (.cons rfl (.nil _)) ?_
  refine cd_ret ?_
  refine rt_cell (h0 := 2) (.inl rfl) Try.results93 ty55 rfl rfl rfl (by first | omega | (simp only [List.length_append, List.length_cons, List.length_nil, List.length_set, List.length_replicate, List.length_take, List.length_drop, ints_length, wr_length, sha_len, node_len, recov_len, Ky.named_len, Ky.keyPub_len, Ky.hashOf_len] <;> omega) | rfl) ?_
  exact fun w1 sw => ⟨vd, hx6, rfl, (sw.gives (N := [(0, _)]) (.cons rfl (.nil _)))⟩
set_option maxRecDepth 20000 in
set_option maxHeartbeats 8000000 in
theorem qreadkeys_any (b : Nat) (rv : Value) (bad : Bool) (r : List Int) (w : World) (hb : w.heap[b]? = some (.cells (List.toArray [rv, .bool bad]) 112)) (h : Rd w rv 1 (ints .u8 r)) (ho : FE.off b (.sl rv 1 (ints .u8 r))) (hr : r.length ≤ 140737488352000) (he : bad = true → r = []) (hB : Byt r) : Calls Try.prog 61 #[.pointer (some ⟨b, 0, none⟩)] w (Post (ι := Bool × List Int × Value × Rt.KD × Value) w [b] (fun x => Rr.Und rv r x.2.2.1 x.2.1 ∧ Rt.KRel true bad r x.2.2.2.1 x.1 x.2.1) (fun x => .agg (List.toArray [x.2.2.2.2, .int .i64 x.2.2.2.1.need])) (fun x => [(0, .blk (b) (.cells ([x.2.2.1, .bool (x.1)]).toArray 112)), (1, .own (x.2.2.2.2) 55 32 (flat (x.2.2.2.1.ks)))])) := by
  have hnr := Rr.nVal_rng r
  have hnl := Rr.nRest_len r
  refine calls_at (vs := [.pointer (some ⟨b, 0, none⟩)]) (X := [b]) (H := [(0, .blk (b) (.cells ([rv, .bool (bad)]).toArray 112))]) (F := [(1, .sl rv 1 (ints .u8 r))]) 35 Try.func61 rfl rfl rfl ((Sat.blkX 0 hb).readb (f := .sl rv 1 (ints .u8 r)) 1 h ho) ?_
  refine cd_seq ?_
  refine cd_region ?_
  refine st_alloc (h := 2) ty24 rfl rfl rfl (fun b2 => ?_)
  refine op_nil ?_
  refine ax_then ?_
  refine At.regs (L' := [(0, _), (2, _)]) (.cons rfl (.cons rfl (.nil _))) ?_
  refine cd_seq ?_
  refine cd_region ?_
  refine st_alloc (h := 3) ty24 rfl rfl rfl (fun b3 => ?_)
  refine op_nil ?_
  refine ax_then ?_
  refine At.regs (L' := [(0, _), (2, _), (3, _)]) (.cons rfl (.cons rfl (.cons rfl (.nil _)))) ?_
  refine cd_seq ?_
  refine cd_region ?_
  refine st (ev_move rfl) rfl rfl rfl ?_
  refine st_call has53 rfl (fun w1 sw => rn 0 (qrnum_g b rv bad r w1 (sw.blk_eq (h := 0) rfl) (sw.sl_rd (h := 1) rfl) (sw.off 1 _ 0 _ rfl rfl _ (by simp [Ent.ids])) hr he hB)) (mod_blk rfl) rfl rfl (fun x7 hx7 => ?_)
  refine at_fmap (h := 1) 1 rfl (fun w1 hh => hx7.rd w1 hh) hx7.blk hx7.nil ?_
  refine st (ev_assign rfl) rfl rfl rfl ?_
  refine op_nil ?_
  refine ax_then ?_
  refine At.regs (L' := [(0, _), (2, _), (3, _), (4, _)]) (.cons rfl (.cons rfl (.cons rfl (.cons rfl (.nil _))))) ?_
  refine cd_seq ?_
  refine cd_seq ?_
  refine cd_region ?_
  refine st (ev_assign rfl) rfl rfl rfl ?_
  refine op_nil ?_
  refine ax_then ?_
  refine At.regs (L' := [(0, _), (2, _), (3, _), (4, _), (5, _)]) (.cons rfl (.cons rfl (.cons rfl (.cons rfl (.cons rfl (.nil _)))))) ?_
  refine cd_block ?_
  refine at_own_nil 105 55 32 ?_
  refine at_heq (i := 105) (v' := .own (.slice none 0 0) 55 32 (flat ([]))) rfl rfl ?_
  refine cd_loop (ι := Bool × List Int × Value × List (List Int) × Value) (fun x => x.2.2.2.1.length ≤ 5 ∧ (x.2.2.2.1.length : Int) ≤ Rr.nVal r ∧ Rr.Und rv r x.2.2.1 x.2.1 ∧ Rt.TRel (bad || Rr.nBad r) (Rr.nRest r) (Rr.nVal r) (Rr.nVal r - x.2.2.2.1.length) x.1 x.2.1 x.2.2.2.1) (fun x => 5 - x.2.2.2.1.length)
      (fun x => [(0, .pointer (some ⟨b, 0, none⟩)), (2, .pointer (some ⟨b2, 0, none⟩)), (3, .pointer (some ⟨b3, 0, none⟩)), (4, .int .i64 (Rr.nVal r)), (5, .int .i64 (x.2.2.2.1.length : Nat))])
      (fun x => [(0, .blk (b) (.cells ([x.2.2.1, .bool (x.1)]).toArray 112)), (2, .blk (b2) (.cells ([.slice none 0 0, .int .i64 0]).toArray 24)), (3, .blk (b3) (.cells ([x.2.2.2.2, .int .i64 0]).toArray 24)), (105, .own (x.2.2.2.2) 55 32 (flat (x.2.2.2.1)))])
      (fun x => [(1, .sl x.2.2.1 1 (ints .u8 x.2.1))])
      ((bad || Rr.nBad r), (Rr.nRest r), x7, [], .slice none 0 0) (⟨Nat.zero_le _, hnr.1, hx7, by have := Rt.TRel.init (bad || Rr.nBad r) (Rr.nRest r) hnr.1; simpa using this⟩) (.cons rfl (.cons rfl (.cons rfl (.cons rfl (.cons rfl (.nil _)))))) (.cons rfl (.cons rfl (.cons rfl (.cons rfl (.nil _))))) (.cons rfl (.nil _)) (fun x hi => ?_)
  obtain ⟨bd, rc, v, hs, u⟩ := x
  dsimp only at hi ⊢
  have hti := hi.2.2.2
  have hul := hi.2.2.1.len
  have hi1 := hi.1
  have hi2 := hi.2.1
  refine cd_seq ?_
  refine cd_seq ?_
  refine cd_region ?_
  refine st (ev_move rfl) rfl rfl rfl ?_
  refine st (ev_move rfl) rfl rfl rfl ?_
  refine st (ev_lss rfl rfl) rfl rfl rfl ?_
  refine st (ev_move rfl) rfl rfl rfl ?_
  refine at_split_if (i := 11) rfl (fun hg11 => ?_) (fun hg11 => ?_)
  ·
    refine st (ev_move rfl) rfl rfl rfl ?_
    refine st (ev_nilCheck rfl) rfl rfl rfl ?_
    refine st (ev_fieldAddr (b := _) Try.underlying112 (f := _) rfl ty4 (by decide) rfl) rfl rfl rfl ?_
    refine st (ld_blk1 (h := 0) ty4 rfl rfl rfl rfl) rfl rfl rfl ?_
    refine st (ev_not rfl) rfl rfl rfl ?_
    refine st (ev_pick_t rfl rfl) rfl rfl rfl ?_
    refine st (ev_move rfl) rfl rfl rfl ?_
    refine at_split (i := 18) rfl (fun hg18 => ?_) (fun hg18 => ?_)
    ·
      have hbd : bd = false := by revert hg18; cases bd <;> simp
      refine st (ev_move rfl) rfl rfl rfl ?_
      refine st (ev_leq rfl rfl) rfl rfl rfl ?_
      refine st (ev_pick_t rfl rfl) rfl rfl rfl ?_
      refine op_nil ?_
      refine ax_then ?_
      refine At.regs (L' := [(0, _), (2, _), (3, _), (4, _), (5, _), (8, _), (9, _), (10, _), (11, _), (12, _), (13, _), (14, _), (15, _), (16, _), (17, _), (18, _), (19, _), (20, _), (21, _)]) (.cons rfl (.cons rfl (.cons rfl (.cons rfl (.cons rfl (.cons rfl (.cons rfl (.cons rfl (.cons rfl (.cons rfl (.cons rfl (.cons rfl (.cons rfl (.cons rfl (.cons rfl (.cons rfl (.cons rfl (.cons rfl (.cons rfl (.nil _)))))))))))))))))))) ?_
      refine cd_if rfl (fun hc21 => ?_) (fun hc21 => ?_)
      ·
        refine cd_skip ?_
        refine ax_then ?_
        refine At.regs (L' := [(0, _), (2, _), (3, _), (4, _), (5, _), (8, _), (9, _), (10, _), (11, _), (12, _), (13, _), (14, _), (15, _), (16, _), (17, _), (18, _), (19, _), (20, _), (21, _)]) (.cons rfl (.cons rfl (.cons rfl (.cons rfl (.cons rfl (.cons rfl (.cons rfl (.cons rfl (.cons rfl (.cons rfl (.cons rfl (.cons rfl (.cons rfl (.cons rfl (.cons rfl (.cons rfl (.cons rfl (.cons rfl (.cons rfl (.nil _)))))))))))))))))))) ?_
        refine cd_seq ?_
        refine cd_block ?_
        refine cd_mix hmix ?_
        refine mx (i := 0) rfl (by decide +kernel) (by decide +kernel) (by decide +kernel) rfl (fun w0 => ev_fieldAddr (b := _) Try.underlying24 (f := _) rfl ty22 (by decide) rfl) rfl rfl (Sub.refl _) ?_
        refine mx (i := 2) rfl (by decide +kernel) (by decide +kernel) (by decide +kernel) rfl (fun w0 => ev_move rfl) rfl rfl (Sub.refl _) ?_
        refine mx_two (i := 1) (j := 3) (by decide +kernel) (Sub.refl _) ?_ ?_
        ·
          refine wo (i := 1) rfl ?_
          refine st (ld_blk1 (h := 3) ty22 rfl rfl rfl rfl) rfl rfl rfl ?_
          refine op_nil ?_
          refine ax_then ?_
          refine mx_one (i := 3) (by decide +kernel) (Sub.refl _) ?_
          refine wo (i := 3) rfl ?_
          refine st_call has93 rfl (fun w1 sw => rn 0 (qhash6_any b v bd rc w1 (sw.blk_eq (h := 0) rfl) (sw.sl_rd (h := 1) rfl) (sw.off 1 _ 0 _ rfl rfl _ (by simp [Ent.ids])) (by omega) (fun hh => hti.rest (fun hh2 => Rt.nRest_bad he hh2) hh))) (mod_blk rfl) rfl rfl (fun x27 hx27 => ?_)
          have hho := Ky.hashOf_len rc
          refine op_nil ?_
          refine ax_then ?_
          refine mx_one (i := 4) (by decide +kernel) (Sub.refl _) ?_
          refine wo (i := 4) rfl ?_
          refine st_bsh1 (h := 28) Try.underlying22 ty55 rfl (by assumption) rfl rfl (fun b28 hu28 => ?_)
          refine op_nil ?_
          refine ax_then ?_
          refine mx_one (i := 5) (by decide +kernel) (Sub.refl _) ?_
          refine wo (i := 5) rfl ?_
          refine st_appendh (h := 105) Try.underlying22 Try.underlying22 ty55 rfl rfl rfl rfl (fun w1 sw => sw.own_rd (h := 28) rfl) hti.h32 hu28 (by simp only [List.length_cons, List.length_nil]; omega) (by decide) rfl rfl (fun v29 hu29 => ?_)
          refine at_own_shape (h := 105) rfl (fun hs29 => ?_)
          refine op_nil ?_
          refine ax_then ?_
          refine mx (i := 6) rfl (by decide +kernel) (by decide +kernel) (by decide +kernel) rfl (fun w0 => ev_fieldAddr (b := _) Try.underlying24 (f := _) rfl ty22 (by decide) rfl) rfl rfl (Sub.refl _) ?_
          refine mx_one (i := 7) (by decide +kernel) (Sub.refl _) ?_
          refine wo (i := 7) rfl ?_
          refine st_store1 3 ty22 rfl rfl rfl hs29.2 (show 0 < 2 from by decide) rfl ?_
          refine at_heq (i := 3) (v' := .blk (b3) (.cells ([v29, .int .i64 0]).toArray 24)) rfl rfl ?_
          refine op_nil ?_
          refine ax_then ?_
          refine mx_done (by decide +kernel) (Sub.refl _) ?_
          refine ax_block ?_
          refine ax_then ?_
          refine At.regs (L' := [(0, _), (2, _), (3, _), (4, _), (5, _), (8, _), (9, _), (10, _), (11, _), (12, _), (13, _), (14, _), (15, _), (16, _), (17, _), (18, _), (19, _), (20, _), (21, _), (24, _), (25, _), (26, _), (27, _), (28, _), (29, _), (30, _)]) (.cons rfl (.cons rfl (.cons rfl (.cons rfl (.cons rfl (.cons rfl (.cons rfl (.cons rfl (.cons rfl (.cons rfl (.cons rfl (.cons rfl (.cons rfl (.cons rfl (.cons rfl (.cons rfl (.cons rfl (.cons rfl (.cons rfl (.cons rfl (.cons rfl (.cons rfl (.cons rfl (.cons rfl (.cons rfl (.cons rfl (.nil _))))))))))))))))))))))))))) ?_
          refine at_fmap (h := 1) 1 rfl (fun w1 hh => hx27.rd w1 hh) hx27.blk hx27.nil ?_
          refine cd_region ?_
          refine st (ev_move rfl) rfl rfl rfl ?_
          refine st (ev_add64 rfl rfl (by omega) (by omega)) rfl rfl rfl ?_
          refine st (ev_assign rfl) rfl rfl rfl ?_
          refine op_nil ?_
          refine ax_eq (i := 5) (v' := .int .i64 ((hs ++ [Ky.hashOf rc]).length : Nat)) rfl (by rw [List.length_append]; rfl) ?_
          exact at_again (((bd || decide (rc.length < 32)), Ky.rawRest rc, x27, hs ++ [Ky.hashOf rc], v29)) (⟨by show (hs ++ [Ky.hashOf rc]).length ≤ 5; rw [List.length_append]; simp; omega, by show ((hs ++ [Ky.hashOf rc]).length : Int) ≤ _; rw [List.length_append]; simp; omega, hi.2.2.1.trans hx27, by have := hti.step (by omega) hbd; show Rt.TRel _ _ _ (Rr.nVal r - ((hs ++ [Ky.hashOf rc]).length : Nat)) _ _ _; rw [List.length_append, show (Rr.nVal r - ((hs.length + [Ky.hashOf rc].length : Nat) : Int)) = Rr.nVal r - hs.length - 1 by simp; omega]; exact this⟩) (by show 5 - (hs ++ [Ky.hashOf rc]).length < 5 - hs.length; rw [List.length_append]; simp; omega) (.cons rfl (.cons rfl (.cons rfl (.cons rfl (.cons rfl (.nil _)))))) (.cons rfl (.cons rfl (.cons rfl (.cons rfl (.nil _))))) (.cons rfl (.nil _))
        ·
          refine wo (i := 3) rfl ?_
          refine st_call has93 rfl (fun w1 sw => rn 0 (qhash6_any b v bd rc w1 (sw.blk_eq (h := 0) rfl) (sw.sl_rd (h := 1) rfl) (sw.off 1 _ 0 _ rfl rfl _ (by simp [Ent.ids])) (by omega) (fun hh => hti.rest (fun hh2 => Rt.nRest_bad he hh2) hh))) (mod_blk rfl) rfl rfl (fun x27 hx27 => ?_)
          have hho := Ky.hashOf_len rc
          refine op_nil ?_
          refine ax_then ?_
          refine mx_two (i := 1) (j := 4) (by decide +kernel) (Sub.refl _) ?_ ?_
          ·
            refine wo (i := 1) rfl ?_
            refine st (ld_blk1 (h := 3) ty22 rfl rfl rfl rfl) rfl rfl rfl ?_
            refine op_nil ?_
            refine ax_then ?_
            refine mx_one (i := 4) (by decide +kernel) (Sub.refl _) ?_
            refine wo (i := 4) rfl ?_
            refine st_bsh1 (h := 28) Try.underlying22 ty55 rfl (by assumption) rfl rfl (fun b28 hu28 => ?_)
            refine op_nil ?_
            refine ax_then ?_
            refine mx_one (i := 5) (by decide +kernel) (Sub.refl _) ?_
            refine wo (i := 5) rfl ?_
            refine st_appendh (h := 105) Try.underlying22 Try.underlying22 ty55 rfl rfl rfl rfl (fun w1 sw => sw.own_rd (h := 28) rfl) hti.h32 hu28 (by simp only [List.length_cons, List.length_nil]; omega) (by decide) rfl rfl (fun v29 hu29 => ?_)
            refine at_own_shape (h := 105) rfl (fun hs29 => ?_)
            refine op_nil ?_
            refine ax_then ?_
            refine mx (i := 6) rfl (by decide +kernel) (by decide +kernel) (by decide +kernel) rfl (fun w0 => ev_fieldAddr (b := _) Try.underlying24 (f := _) rfl ty22 (by decide) rfl) rfl rfl (Sub.refl _) ?_
            refine mx_one (i := 7) (by decide +kernel) (Sub.refl _) ?_
            refine wo (i := 7) rfl ?_
            refine st_store1 3 ty22 rfl rfl rfl hs29.2 (show 0 < 2 from by decide) rfl ?_
            refine at_heq (i := 3) (v' := .blk (b3) (.cells ([v29, .int .i64 0]).toArray 24)) rfl rfl ?_
            refine op_nil ?_
            refine ax_then ?_
            refine mx_done (by decide +kernel) (Sub.refl _) ?_
            refine ax_block ?_
            refine ax_then ?_
            refine At.regs (L' := [(0, _), (2, _), (3, _), (4, _), (5, _), (8, _), (9, _), (10, _), (11, _), (12, _), (13, _), (14, _), (15, _), (16, _), (17, _), (18, _), (19, _), (20, _), (21, _), (24, _), (25, _), (26, _), (27, _), (28, _), (29, _), (30, _)]) (.cons rfl (.cons rfl (.cons rfl (.cons rfl (.cons rfl (.cons rfl (.cons rfl (.cons rfl (.cons rfl (.cons rfl (.cons rfl (.cons rfl (.cons rfl (.cons rfl (.cons rfl (.cons rfl (.cons rfl (.cons rfl (.cons rfl (.cons rfl (.cons rfl (.cons rfl (.cons rfl (.cons rfl (.cons rfl (.cons rfl (.nil _))))))))))))))))))))))))))) ?_
            refine at_fmap (h := 1) 1 rfl (fun w1 hh => hx27.rd w1 hh) hx27.blk hx27.nil ?_
            refine cd_region ?_
            refine st (ev_move rfl) rfl rfl rfl ?_
            refine st (ev_add64 rfl rfl (by omega) (by omega)) rfl rfl rfl ?_
            refine st (ev_assign rfl) rfl rfl rfl ?_
            refine op_nil ?_
            refine ax_eq (i := 5) (v' := .int .i64 ((hs ++ [Ky.hashOf rc]).length : Nat)) rfl (by rw [List.length_append]; rfl) ?_
            exact at_again (((bd || decide (rc.length < 32)), Ky.rawRest rc, x27, hs ++ [Ky.hashOf rc], v29)) (⟨by show (hs ++ [Ky.hashOf rc]).length ≤ 5; rw [List.length_append]; simp; omega, by show ((hs ++ [Ky.hashOf rc]).length : Int) ≤ _; rw [List.length_append]; simp; omega, hi.2.2.1.trans hx27, by have := hti.step (by omega) hbd; show Rt.TRel _ _ _ (Rr.nVal r - ((hs ++ [Ky.hashOf rc]).length : Nat)) _ _ _; rw [List.length_append, show (Rr.nVal r - ((hs.length + [Ky.hashOf rc].length : Nat) : Int)) = Rr.nVal r - hs.length - 1 by simp; omega]; exact this⟩) (by show 5 - (hs ++ [Ky.hashOf rc]).length < 5 - hs.length; rw [List.length_append]; simp; omega) (.cons rfl (.cons rfl (.cons rfl (.cons rfl (.cons rfl (.nil _)))))) (.cons rfl (.cons rfl (.cons rfl (.cons rfl (.nil _))))) (.cons rfl (.nil _))
          ·
            refine wo (i := 4) rfl ?_
            refine st_bsh1 (h := 28) Try.underlying22 ty55 rfl (by assumption) rfl rfl (fun b28 hu28 => ?_)
            refine op_nil ?_
            refine ax_then ?_
            refine mx_one (i := 1) (by decide +kernel) (Sub.refl _) ?_
            refine wo (i := 1) rfl ?_
            refine st (ld_blk1 (h := 3) ty22 rfl rfl rfl rfl) rfl rfl rfl ?_
            refine op_nil ?_
            refine ax_then ?_
            refine mx_one (i := 5) (by decide +kernel) (Sub.refl _) ?_
            refine wo (i := 5) rfl ?_
            refine st_appendh (h := 105) Try.underlying22 Try.underlying22 ty55 rfl rfl rfl rfl (fun w1 sw => sw.own_rd (h := 28) rfl) hti.h32 hu28 (by simp only [List.length_cons, List.length_nil]; omega) (by decide) rfl rfl (fun v29 hu29 => ?_)
            refine at_own_shape (h := 105) rfl (fun hs29 => ?_)
            refine op_nil ?_
            refine ax_then ?_
            refine mx (i := 6) rfl (by decide +kernel) (by decide +kernel) (by decide +kernel) rfl (fun w0 => ev_fieldAddr (b := _) Try.underlying24 (f := _) rfl ty22 (by decide) rfl) rfl rfl (Sub.refl _) ?_
            refine mx_one (i := 7) (by decide +kernel) (Sub.refl _) ?_
            refine wo (i := 7) rfl ?_
            refine st_store1 3 ty22 rfl rfl rfl hs29.2 (show 0 < 2 from by decide) rfl ?_
            refine at_heq (i := 3) (v' := .blk (b3) (.cells ([v29, .int .i64 0]).toArray 24)) rfl rfl ?_
            refine op_nil ?_
            refine ax_then ?_
            refine mx_done (by decide +kernel) (Sub.refl _) ?_
            refine ax_block ?_
            refine ax_then ?_
            refine At.regs (L' := [(0, _), (2, _), (3, _), (4, _), (5, _), (8, _), (9, _), (10, _), (11, _), (12, _), (13, _), (14, _), (15, _), (16, _), (17, _), (18, _), (19, _), (20, _), (21, _), (24, _), (25, _), (26, _), (27, _), (28, _), (29, _), (30, _)]) (.cons rfl (.cons rfl (.cons rfl (.cons rfl (.cons rfl (.cons rfl (.cons rfl (.cons rfl (.cons rfl (.cons rfl (.cons rfl (.cons rfl (.cons rfl (.cons rfl (.cons rfl (.cons rfl (.cons rfl (.cons rfl (.cons rfl (.cons rfl (.cons rfl (.cons rfl (.cons rfl (.cons rfl (.cons rfl (.cons rfl (.nil _))))))))))))))))))))))))))) ?_
            refine at_fmap (h := 1) 1 rfl (fun w1 hh => hx27.rd w1 hh) hx27.blk hx27.nil ?_
            refine cd_region ?_
            refine st (ev_move rfl) rfl rfl rfl ?_
            refine st (ev_add64 rfl rfl (by omega) (by omega)) rfl rfl rfl ?_
            refine st (ev_assign rfl) rfl rfl rfl ?_
            refine op_nil ?_
            refine ax_eq (i := 5) (v' := .int .i64 ((hs ++ [Ky.hashOf rc]).length : Nat)) rfl (by rw [List.length_append]; rfl) ?_
            exact at_again (((bd || decide (rc.length < 32)), Ky.rawRest rc, x27, hs ++ [Ky.hashOf rc], v29)) (⟨by show (hs ++ [Ky.hashOf rc]).length ≤ 5; rw [List.length_append]; simp; omega, by show ((hs ++ [Ky.hashOf rc]).length : Int) ≤ _; rw [List.length_append]; simp; omega, hi.2.2.1.trans hx27, by have := hti.step (by omega) hbd; show Rt.TRel _ _ _ (Rr.nVal r - ((hs ++ [Ky.hashOf rc]).length : Nat)) _ _ _; rw [List.length_append, show (Rr.nVal r - ((hs.length + [Ky.hashOf rc].length : Nat) : Int)) = Rr.nVal r - hs.length - 1 by simp; omega]; exact this⟩) (by show 5 - (hs ++ [Ky.hashOf rc]).length < 5 - hs.length; rw [List.length_append]; simp; omega) (.cons rfl (.cons rfl (.cons rfl (.cons rfl (.cons rfl (.nil _)))))) (.cons rfl (.cons rfl (.cons rfl (.cons rfl (.nil _))))) (.cons rfl (.nil _))
      ·
        have hend : (Rr.nVal r - (hs.length : Nat)) ≤ 0 ∨ bd = true ∨ (true = true ∧ hs.length = 5) := .inr (.inr ⟨rfl, by omega⟩)
        refine cd_exit ?_
        refine ax_then_exit ?_
        refine ax_then_exit ?_
        refine ax_block_hit ?_
        refine ax_then ?_
        refine At.regs (L' := [(0, _), (2, _), (3, _)]) (.cons rfl (.cons rfl (.cons rfl (.nil _)))) ?_
        refine cd_seq ?_
        refine at_own_shape (h := 105) rfl (fun hsu => ?_)
        refine cd_region ?_
        refine st (ev_move rfl) rfl rfl rfl ?_
        refine st_call has53 rfl (fun w1 sw => rn 0 (qrnum_g b v bd rc w1 (sw.blk_eq (h := 0) rfl) (sw.sl_rd (h := 1) rfl) (sw.off 1 _ 0 _ rfl rfl _ (by simp [Ent.ids])) (by omega) (fun hh => hti.rest (fun hh2 => Rt.nRest_bad he hh2) hh) (hi.2.2.1.byt hB))) (mod_blk rfl) rfl rfl (fun x32 hx32 => ?_)
        refine st (ev_fieldAddr (b := _) Try.underlying24 (f := _) rfl ty3 (by decide) rfl) rfl rfl rfl ?_
        refine st_store1 3 ty3 rfl rfl rfl rfl (show 1 < 2 from by decide) rfl ?_
        refine at_heq (i := 3) (v' := .blk (b3) (.cells ([u, .int .i64 (Rr.nVal rc)]).toArray 24)) rfl rfl ?_
        refine op_nil ?_
        refine ax_then ?_
        refine At.regs (L' := [(2, _), (3, _)]) (.cons rfl (.cons rfl (.nil _))) ?_
        refine cd_seq ?_
        refine cd_region ?_
        refine st (ld_blk_all (h := 3) ty24 rfl rfl rfl rfl) rfl rfl rfl ?_
        refine st_store_all 2 ty24 rfl rfl rfl rfl rfl (by intro u0 hu0; simp at hu0; rcases hu0 with rfl | rfl; exact hsu.2; rfl) rfl rfl ?_
        refine op_nil ?_
        refine ax_then ?_
        refine At.regs (L' := [(2, _)]) (.cons rfl (.nil _)) ?_
        refine cd_ret ?_
        refine rt_cell (h0 := 2) (.inl rfl) Try.results61 ty24 rfl rfl rfl (by first | omega | (simp only [List.length_append, List.length_cons, List.length_nil, List.length_set, List.length_replicate, List.length_take, List.length_drop, ints_length, wr_length, sha_len, node_len, recov_len, Ky.named_len, Ky.keyPub_len, Ky.hashOf_len] <;> omega) | rfl) ?_
        exact fun w1 sw => ⟨((bd || Rr.nBad rc), Rr.nRest rc, x32, ⟨hs, Rr.nVal rc⟩, u), ⟨hi.2.2.1.trans hx32, Rt.krel (hi.2.2.1.byt hB) (Rt.tend hB hti hend (fun _ => hi1))⟩, rfl, (sw.gives (N := [(0, _), (105, _)]) (.cons rfl (.cons rfl (.nil _)))).rn2 (by decide) 0 1⟩
    ·
      have hend : (Rr.nVal r - (hs.length : Nat)) ≤ 0 ∨ bd = true ∨ (true = true ∧ hs.length = 5) := .inr (.inl (by revert hg18; cases bd <;> simp))
      refine st_skip rfl rfl rfl ?_
      refine st_skip rfl rfl rfl ?_
      refine st (ev_pick_f rfl rfl) rfl rfl rfl ?_
      refine op_nil ?_
      refine ax_then ?_
      refine At.regs (L' := [(0, _), (2, _), (3, _), (4, _), (5, _), (8, _), (9, _), (10, _), (11, _), (12, _), (13, _), (14, _), (15, _), (16, _), (17, _), (18, _), (19, _), (20, _), (21, _)]) (.cons rfl (.cons rfl (.cons rfl (.cons rfl (.cons rfl (.cons rfl (.cons rfl (.cons rfl (.cons rfl (.cons rfl (.cons rfl (.cons rfl (.cons rfl (.cons rfl (.cons rfl (.cons rfl (.cons rfl (.cons rfl (.cons rfl (.nil _)))))))))))))))))))) ?_
      refine cd_false rfl ?_
      refine cd_exit ?_
      refine ax_then_exit ?_
      refine ax_then_exit ?_
      refine ax_block_hit ?_
      refine ax_then ?_
      refine At.regs (L' := [(0, _), (2, _), (3, _)]) (.cons rfl (.cons rfl (.cons rfl (.nil _)))) ?_
      refine cd_seq ?_
      refine at_own_shape (h := 105) rfl (fun hsu => ?_)
      refine cd_region ?_
      refine st (ev_move rfl) rfl rfl rfl ?_
      refine st_call has53 rfl (fun w1 sw => rn 0 (qrnum_g b v bd rc w1 (sw.blk_eq (h := 0) rfl) (sw.sl_rd (h := 1) rfl) (sw.off 1 _ 0 _ rfl rfl _ (by simp [Ent.ids])) (by omega) (fun hh => hti.rest (fun hh2 => Rt.nRest_bad he hh2) hh) (hi.2.2.1.byt hB))) (mod_blk rfl) rfl rfl (fun x32 hx32 => ?_)
      refine st (ev_fieldAddr (b := _) Try.underlying24 (f := _) rfl ty3 (by decide) rfl) rfl rfl rfl ?_
      refine st_store1 3 ty3 rfl rfl rfl rfl (show 1 < 2 from by decide) rfl ?_
      refine at_heq (i := 3) (v' := .blk (b3) (.cells ([u, .int .i64 (Rr.nVal rc)]).toArray 24)) rfl rfl ?_
      refine op_nil ?_
      refine ax_then ?_
      refine At.regs (L' := [(2, _), (3, _)]) (.cons rfl (.cons rfl (.nil _))) ?_
      refine cd_seq ?_
      refine cd_region ?_
      refine st (ld_blk_all (h := 3) ty24 rfl rfl rfl rfl) rfl rfl rfl ?_
      refine st_store_all 2 ty24 rfl rfl rfl rfl rfl (by intro u0 hu0; simp at hu0; rcases hu0 with rfl | rfl; exact hsu.2; rfl) rfl rfl ?_
      refine op_nil ?_
      refine ax_then ?_
      refine At.regs (L' := [(2, _)]) (.cons rfl (.nil _)) ?_
      refine cd_ret ?_
      refine rt_cell (h0 := 2) (.inl rfl) Try.results61 ty24 rfl rfl rfl (by first | omega | (simp only [List.length_append, List.length_cons, List.length_nil, List.length_set, List.length_replicate, List.length_take, List.length_drop, ints_length, wr_length, sha_len, node_len, recov_len, Ky.named_len, Ky.keyPub_len, Ky.hashOf_len] <;> omega) | rfl) ?_
      exact fun w1 sw => ⟨((bd || Rr.nBad rc), Rr.nRest rc, x32, ⟨hs, Rr.nVal rc⟩, u), ⟨hi.2.2.1.trans hx32, Rt.krel (hi.2.2.1.byt hB) (Rt.tend hB hti hend (fun _ => hi1))⟩, rfl, (sw.gives (N := [(0, _), (105, _)]) (.cons rfl (.cons rfl (.nil _)))).rn2 (by decide) 0 1⟩
  ·
    have hend : (Rr.nVal r - (hs.length : Nat)) ≤ 0 ∨ bd = true ∨ (true = true ∧ hs.length = 5) := .inl (by omega)
    refine st_skip rfl rfl rfl ?_
    refine st_skip rfl rfl rfl ?_
    refine st_skip rfl rfl rfl ?_
    refine st_skip rfl rfl rfl ?_
    refine st_skip rfl rfl rfl ?_
    refine st (ev_pick_f rfl rfl) rfl rfl rfl ?_
    refine st (ev_move rfl) rfl rfl rfl ?_
    refine st_skip rfl rfl rfl ?_
    refine st_skip rfl rfl rfl ?_
    refine st (ev_pick_f rfl rfl) rfl rfl rfl ?_
    refine op_nil ?_
    refine ax_then ?_
    refine At.regs (L' := [(0, _), (2, _), (3, _), (4, _), (5, _), (8, _), (9, _), (10, _), (11, _), (12, _), (13, _), (14, _), (15, _), (16, _), (17, _), (18, _), (19, _), (20, _), (21, _)]) (.cons rfl (.cons rfl (.cons rfl (.cons rfl (.cons rfl (.cons rfl (.cons rfl (.cons rfl (.cons rfl (.cons rfl (.cons rfl (.cons rfl (.cons rfl (.cons rfl (.cons rfl (.cons rfl (.cons rfl (.cons rfl (.cons rfl (.nil _)))))))))))))))))))) ?_
    refine cd_false rfl ?_
    refine cd_exit ?_
    refine ax_then_exit ?_
    refine ax_then_exit ?_
    refine ax_block_hit ?_
    refine ax_then ?_
    refine At.regs (L' := [(0, _), (2, _), (3, _)]) (.cons rfl (.cons rfl (.cons rfl (.nil _)))) ?_
    refine cd_seq ?_
    refine at_own_shape (h := 105) rfl (fun hsu => ?_)
    refine cd_region ?_
    refine st (ev_move rfl) rfl rfl rfl ?_
    refine st_call has53 rfl (fun w1 sw => rn 0 (qrnum_g b v bd rc w1 (sw.blk_eq (h := 0) rfl) (sw.sl_rd (h := 1) rfl) (sw.off 1 _ 0 _ rfl rfl _ (by simp [Ent.ids])) (by omega) (fun hh => hti.rest (fun hh2 => Rt.nRest_bad he hh2) hh) (hi.2.2.1.byt hB))) (mod_blk rfl) rfl rfl (fun x32 hx32 => ?_)
    refine st (ev_fieldAddr (b := _) Try.underlying24 (f := _) rfl ty3 (by decide) rfl) rfl rfl rfl ?_
    refine st_store1 3 ty3 rfl rfl rfl rfl (show 1 < 2 from by decide) rfl ?_
    refine at_heq (i := 3) (v' := .blk (b3) (.cells ([u, .int .i64 (Rr.nVal rc)]).toArray 24)) rfl rfl ?_
    refine op_nil ?_
    refine ax_then ?_
    refine At.regs (L' := [(2, _), (3, _)]) (.cons rfl (.cons rfl (.nil _))) ?_
    refine cd_seq ?_
    refine cd_region ?_
    refine st (ld_blk_all (h := 3) ty24 rfl rfl rfl rfl) rfl rfl rfl ?_
    refine st_store_all 2 ty24 rfl rfl rfl rfl rfl (by intro u0 hu0; simp at hu0; rcases hu0 with rfl | rfl; exact hsu.2; rfl) rfl rfl ?_
    refine op_nil ?_
    refine ax_then ?_
    refine At.regs (L' := [(2, _)]) (.cons rfl (.nil _)) ?_
    refine cd_ret ?_
    refine rt_cell (h0 := 2) (.inl rfl) Try.results61 ty24 rfl rfl rfl (by first | omega | (simp only [List.length_append, List.length_cons, List.length_nil, List.length_set, List.length_replicate, List.length_take, List.length_drop, ints_length, wr_length, sha_len, node_len, recov_len, Ky.named_len, Ky.keyPub_len, Ky.hashOf_len] <;> omega) | rfl) ?_
    exact fun w1 sw => ⟨((bd || Rr.nBad rc), Rr.nRest rc, x32, ⟨hs, Rr.nVal rc⟩, u), ⟨hi.2.2.1.trans hx32, Rt.krel (hi.2.2.1.byt hB) (Rt.tend hB hti hend (fun _ => hi1))⟩, rfl, (sw.gives (N := [(0, _), (105, _)]) (.cons rfl (.cons rfl (.nil _)))).rn2 (by decide) 0 1⟩
end Go.Proofs.Ytgfnmolbagilmaa

namespace Go.Proofs.Ytgfnmolbagilmaa
open Go Go.RowKit Fw
open Sha
open Ots
open Mk
set_option linter.unusedVariables false
set_option linter.unusedSimpArgs false
set_option maxRecDepth 20000 in
set_option maxHeartbeats 8000000 in
theorem wroot_any (b : Nat) (rv : Value) (bad : Bool) (r : List Int) (w : World) (hb : w.heap[b]? = some (.cells (List.toArray [rv, .bool bad]) 139)) (h : Rd w rv 1 (ints .u8 r)) (ho : FE.off b (.sl rv 1 (ints .u8 r))) (hr : r.length ≤ 140737488352000) (hB : Byt r) : Calls Try.prog 56 #[.agg (List.toArray [.pointer (some ⟨b, 0, none⟩)])] w (PostRM (ι := List Rt.Rol × Bool × List Int × Value) w [b] (fun x => x.1.length = 4 ∧ (∀ y, y ∈ x.1 → y.1.oneCell' = true) ∧ Rr.Und rv r x.2.2.2 x.2.2.1 ∧ Rt.RRel false bad r ⟨(Rr.nVal r), (Rr.nVal (Rr.nRest r)), Rt.kds x.1⟩ x.2.1 x.2.2.1) (fun x => .agg (Rt.rootC (Rr.nVal r) (Rr.nVal (Rr.nRest r)) x.1).toArray) (fun x => [(0, .blk (b) (.cells ([x.2.2.2, .bool (x.2.1)]).toArray 139))]) (fun x => Rt.rowsR x.1)) := by
  have hl1 := Rr.nRest_len r
  have hl2 := Rr.nRest_len (Rr.nRest r)
  refine calls_at (vs := [.agg (List.toArray [.pointer (some ⟨b, 0, none⟩)])]) (X := [b]) (H := [(0, .blk (b) (.cells ([rv, .bool (bad)]).toArray 139))]) (F := [(1, .sl rv 1 (ints .u8 r))]) 22 Try.func56 rfl rfl rfl ((Sat.blkX 0 hb).readb (f := .sl rv 1 (ints .u8 r)) 1 h ho) ?_
  refine cd_seq ?_
  refine cd_region ?_
  refine st_box (h := 1) rfl rfl rfl rfl (fun b1 => ?_)
  refine st_alloc (h := 2) ty27 rfl rfl rfl (fun b2 => ?_)
  refine op_nil ?_
  refine ax_then ?_
  refine At.regs (L' := [(1, _), (2, _)]) (.cons rfl (.cons rfl (.nil _))) ?_
  refine cd_join (ι := Nat × Value) (fun x => Rr.Und rv r x.2 (Rr.nRest (Rr.nRest r))) (fun x => [(1, .pointer (some ⟨b1, 0, none⟩)), (2, .pointer (some ⟨b2, 0, none⟩)), (3, .pointer (some ⟨x.1, 0, none⟩))]) (fun x => [(0, .blk (b) (.cells ([x.2, .bool ((bad || Rr.nBad r || Rr.nBad (Rr.nRest r)))]).toArray 139)), (2, .blk (b2) (.cells ([.int .i64 0, .int .i64 0, .slice none 0 0, .int .i64 0, .slice none 0 0, .int .i64 0, .slice none 0 0, .int .i64 0, .slice none 0 0, .int .i64 0]).toArray 27)), (3, .blk (x.1) (.cells (Rt.rootC (Rr.nVal r) (Rr.nVal (Rr.nRest r)) []).toArray 27))]) (fun x => [(1, .sl x.2 1 (ints .u8 (Rr.nRest (Rr.nRest r)))), (5, .mem b1 0 [.pointer (some ⟨b, 0, none⟩)])]) ?_ (fun x hj => ?_)
  ·
    refine at_freeze_blk (h := 1) (H' := [(0, _), (2, _)]) 5 rfl (.cons rfl (.cons rfl (.nil _))) rfl ?_
    refine cd_mix hmix ?_
    refine mx (i := 0) rfl (by decide +kernel) (by decide +kernel) (by decide +kernel) rfl (fun w0 => ev_fieldAddr (b := _) Try.underlying117 (f := _) rfl ty107 (by decide) rfl) rfl rfl (Sub.refl _) ?_
    refine mx (i := 1) rfl (by decide +kernel) (by decide +kernel) (by decide +kernel) rfl (fun w0 => ld_mem1 (h := 5) ty107 rfl rfl rfl (Nat.zero_add _).symm rfl) rfl rfl (Sub.refl _) ?_
    refine mx (i := 3) rfl (by decide +kernel) (by decide +kernel) (by decide +kernel) rfl (fun w0 => ev_fieldAddr (b := _) Try.underlying117 (f := _) rfl ty107 (by decide) rfl) rfl rfl (Sub.refl _) ?_
    refine mx (i := 4) rfl (by decide +kernel) (by decide +kernel) (by decide +kernel) rfl (fun w0 => ld_mem1 (h := 5) ty107 rfl rfl rfl (Nat.zero_add _).symm rfl) rfl rfl (Sub.refl _) ?_
    refine mx_two (i := 2) (j := 7) (by decide +kernel) (Sub.refl _) ?_ ?_
    ·
      refine wo (i := 2) rfl ?_
      refine st_call has51 rfl (fun w1 sw => rn 0 (rnum_g b rv (bad) r w1 (sw.blk_eq (h := 0) rfl) (sw.sl_rd (h := 1) rfl) (sw.off 1 _ 0 _ rfl rfl _ (by simp [Ent.ids])) (by omega))) (mod_blk rfl) rfl rfl (fun x7 hx7 => ?_)
      refine op_nil ?_
      refine ax_then ?_
      refine mx_two (i := 5) (j := 7) (by decide +kernel) (Sub.refl _) ?_ ?_
      ·
        refine wo (i := 5) rfl ?_
        refine st_call has51 rfl (fun w1 sw => rn 0 (rnum_g b x7 (bad || Rr.nBad r) (Rr.nRest r) w1 (sw.blk_eq (h := 0) rfl) (hx7.rd _ (sw.sl_rd (h := 1) rfl)) ((sw.off 1 _ 0 _ rfl rfl _ (by simp [Ent.ids])).elim (fun h0 => .inl (hx7.nil h0)) (fun h0 => .inr (fun hb => h0 (hx7.blk _ hb)))) (by omega))) (mod_blk rfl) rfl rfl (fun x10 hx10 => ?_)
        refine op_nil ?_
        refine ax_then ?_
        refine mx (i := 6) rfl (by decide +kernel) (by decide +kernel) (by decide +kernel) rfl (fun w0 => ev_build_struct ty27 rfl pl27 rfl ((fill_put (i := 0) (off := 0) (n := 1) (vs := [.int .i64 (Rr.nVal r)]) rfl rfl rfl (Nat.le_of_ble_eq_true rfl)).trans ((fill_put (i := 1) (off := 1) (n := 1) (vs := [.int .i64 (Rr.nVal (Rr.nRest r))]) rfl rfl rfl (Nat.le_of_ble_eq_true rfl)).trans fill_nil))) rfl rfl (Sub.refl _) ?_
        refine at_eq (i := 11) (v' := .agg (Rt.rootC (Rr.nVal r) (Rr.nVal (Rr.nRest r)) []).toArray) rfl rfl ?_
        refine mx_one (i := 7) (by decide +kernel) (Sub.refl _) ?_
        refine wo (i := 7) rfl ?_
        refine st_alloc (h := 3) ty27 rfl rfl rfl (fun b3 => ?_)
        refine op_nil ?_
        refine ax_then ?_
        refine mx_one (i := 8) (by decide +kernel) (Sub.refl _) ?_
        refine wo (i := 8) rfl ?_
        refine st_store_all 3 ty27 rfl rfl rfl rfl rfl (Rt.rootC_one _ _ (fun x hx => by cases hx)) rfl rfl ?_
        refine op_nil ?_
        refine ax_then ?_
        refine mx_done (by decide +kernel) (Sub.refl _) ?_
        refine ax_fmap (h := 1) 1 rfl (fun w2 hh => (hx7.trans hx10).rd w2 hh) (hx7.trans hx10).blk (hx7.trans hx10).nil ?_
        exact at_met ((b3, x10)) (hx7.trans hx10) (.cons rfl (.cons rfl (.cons rfl (.nil _)))) (.cons rfl (.cons rfl (.cons rfl (.nil _)))) (.cons rfl (.cons rfl (.nil _)))
      ·
        refine wo (i := 7) rfl ?_
        refine st_alloc (h := 3) ty27 rfl rfl rfl (fun b3 => ?_)
        refine op_nil ?_
        refine ax_then ?_
        refine mx_one (i := 5) (by decide +kernel) (Sub.refl _) ?_
        refine wo (i := 5) rfl ?_
        refine st_call has51 rfl (fun w1 sw => rn 0 (rnum_g b x7 (bad || Rr.nBad r) (Rr.nRest r) w1 (sw.blk_eq (h := 0) rfl) (hx7.rd _ (sw.sl_rd (h := 1) rfl)) ((sw.off 1 _ 0 _ rfl rfl _ (by simp [Ent.ids])).elim (fun h0 => .inl (hx7.nil h0)) (fun h0 => .inr (fun hb => h0 (hx7.blk _ hb)))) (by omega))) (mod_blk rfl) rfl rfl (fun x10 hx10 => ?_)
        refine op_nil ?_
        refine ax_then ?_
        refine mx (i := 6) rfl (by decide +kernel) (by decide +kernel) (by decide +kernel) rfl (fun w0 => ev_build_struct ty27 rfl pl27 rfl ((fill_put (i := 0) (off := 0) (n := 1) (vs := [.int .i64 (Rr.nVal r)]) rfl rfl rfl (Nat.le_of_ble_eq_true rfl)).trans ((fill_put (i := 1) (off := 1) (n := 1) (vs := [.int .i64 (Rr.nVal (Rr.nRest r))]) rfl rfl rfl (Nat.le_of_ble_eq_true rfl)).trans fill_nil))) rfl rfl (Sub.refl _) ?_
        refine at_eq (i := 11) (v' := .agg (Rt.rootC (Rr.nVal r) (Rr.nVal (Rr.nRest r)) []).toArray) rfl rfl ?_
        refine mx_one (i := 8) (by decide +kernel) (Sub.refl _) ?_
        refine wo (i := 8) rfl ?_
        refine st_store_all 3 ty27 rfl rfl rfl rfl rfl (Rt.rootC_one _ _ (fun x hx => by cases hx)) rfl rfl ?_
        refine op_nil ?_
        refine ax_then ?_
        refine mx_done (by decide +kernel) (Sub.refl _) ?_
        refine ax_fmap (h := 1) 1 rfl (fun w2 hh => (hx7.trans hx10).rd w2 hh) (hx7.trans hx10).blk (hx7.trans hx10).nil ?_
        exact at_met ((b3, x10)) (hx7.trans hx10) (.cons rfl (.cons rfl (.cons rfl (.nil _)))) (.cons rfl (.cons rfl (.cons rfl (.nil _)))) (.cons rfl (.cons rfl (.nil _)))
    ·
      refine wo (i := 7) rfl ?_
      refine st_alloc (h := 3) ty27 rfl rfl rfl (fun b3 => ?_)
      refine op_nil ?_
      refine ax_then ?_
      refine mx_one (i := 2) (by decide +kernel) (Sub.refl _) ?_
      refine wo (i := 2) rfl ?_
      refine st_call has51 rfl (fun w1 sw => rn 0 (rnum_g b rv (bad) r w1 (sw.blk_eq (h := 0) rfl) (sw.sl_rd (h := 1) rfl) (sw.off 1 _ 0 _ rfl rfl _ (by simp [Ent.ids])) (by omega))) (mod_blk rfl) rfl rfl (fun x7 hx7 => ?_)
      refine op_nil ?_
      refine ax_then ?_
      refine mx_one (i := 5) (by decide +kernel) (Sub.refl _) ?_
      refine wo (i := 5) rfl ?_
      refine st_call has51 rfl (fun w1 sw => rn 0 (rnum_g b x7 (bad || Rr.nBad r) (Rr.nRest r) w1 (sw.blk_eq (h := 0) rfl) (hx7.rd _ (sw.sl_rd (h := 1) rfl)) ((sw.off 1 _ 0 _ rfl rfl _ (by simp [Ent.ids])).elim (fun h0 => .inl (hx7.nil h0)) (fun h0 => .inr (fun hb => h0 (hx7.blk _ hb)))) (by omega))) (mod_blk rfl) rfl rfl (fun x10 hx10 => ?_)
      refine op_nil ?_
      refine ax_then ?_
      refine mx (i := 6) rfl (by decide +kernel) (by decide +kernel) (by decide +kernel) rfl (fun w0 => ev_build_struct ty27 rfl pl27 rfl ((fill_put (i := 0) (off := 0) (n := 1) (vs := [.int .i64 (Rr.nVal r)]) rfl rfl rfl (Nat.le_of_ble_eq_true rfl)).trans ((fill_put (i := 1) (off := 1) (n := 1) (vs := [.int .i64 (Rr.nVal (Rr.nRest r))]) rfl rfl rfl (Nat.le_of_ble_eq_true rfl)).trans fill_nil))) rfl rfl (Sub.refl _) ?_
      refine at_eq (i := 11) (v' := .agg (Rt.rootC (Rr.nVal r) (Rr.nVal (Rr.nRest r)) []).toArray) rfl rfl ?_
      refine mx_one (i := 8) (by decide +kernel) (Sub.refl _) ?_
      refine wo (i := 8) rfl ?_
      refine st_store_all 3 ty27 rfl rfl rfl rfl rfl (Rt.rootC_one _ _ (fun x hx => by cases hx)) rfl rfl ?_
      refine op_nil ?_
      refine ax_then ?_
      refine mx_done (by decide +kernel) (Sub.refl _) ?_
      refine ax_fmap (h := 1) 1 rfl (fun w2 hh => (hx7.trans hx10).rd w2 hh) (hx7.trans hx10).blk (hx7.trans hx10).nil ?_
      exact at_met ((b3, x10)) (hx7.trans hx10) (.cons rfl (.cons rfl (.cons rfl (.nil _)))) (.cons rfl (.cons rfl (.cons rfl (.nil _)))) (.cons rfl (.cons rfl (.nil _)))
  ·
    obtain ⟨b3, x10⟩ := x
    dsimp only at hj ⊢
    refine cd_seq ?_
    refine cd_seq ?_
    refine cd_region ?_
    refine st (ev_move rfl) rfl rfl rfl ?_
    refine op_nil ?_
    refine ax_then ?_
    refine At.regs (L' := [(1, _), (2, _), (3, _), (12, _)]) (.cons rfl (.cons rfl (.cons rfl (.cons rfl (.nil _))))) ?_
    refine cd_block ?_
    refine at_rows_nil 200 ?_
    refine cd_loop (ι := List Rt.Rol × Bool × List Int × Value) (fun x => x.1.length ≤ 4 ∧ Rr.Und rv r x.2.2.2 x.2.2.1 ∧ Rt.RLoop false (bad || Rr.nBad r || Rr.nBad (Rr.nRest r)) (Rr.nRest (Rr.nRest r)) (Rt.kds x.1) x.2.1 x.2.2.1 ∧ (∀ y, y ∈ Rt.rowsR x.1 → ∀ b', b' ∈ blkOf y.1 → w.heap.size ≤ b') ∧ ∀ y, y ∈ x.1 → y.1.oneCell' = true) (fun x => 4 - x.1.length)
        (fun x => [(1, .pointer (some ⟨b1, 0, none⟩)), (2, .pointer (some ⟨b2, 0, none⟩)), (3, .pointer (some ⟨b3, 0, none⟩)), (12, .int .i64 (x.1.length : Nat))])
        (fun x => [(0, .blk (b) (.cells ([x.2.2.2, .bool (x.2.1)]).toArray 139)), (2, .blk (b2) (.cells ([.int .i64 0, .int .i64 0, .slice none 0 0, .int .i64 0, .slice none 0 0, .int .i64 0, .slice none 0 0, .int .i64 0, .slice none 0 0, .int .i64 0]).toArray 27)), (3, .blk (b3) (.cells (Rt.rootC (Rr.nVal r) (Rr.nVal (Rr.nRest r)) x.1).toArray 27))])
        (fun x => [(1, .sl x.2.2.2 1 (ints .u8 x.2.2.1)), (5, .mem b1 0 [.pointer (some ⟨b, 0, none⟩)]), (200, .rows (Rt.rowsR x.1))])
        ([], (bad || Rr.nBad r || Rr.nBad (Rr.nRest r)), (Rr.nRest (Rr.nRest r)), x10) (⟨Nat.zero_le _, hj, Rt.RLoop.init _ _ _, (fun y hy => by cases hy), (fun y hy => by cases hy)⟩) (.cons rfl (.cons rfl (.cons rfl (.cons rfl (.nil _))))) (.cons rfl (.cons rfl (.cons rfl (.nil _)))) (.cons rfl (.cons rfl (.cons rfl (.nil _)))) (fun x hi => ?_)
    obtain ⟨l, bd, rc, v⟩ := x
    dsimp only at hi ⊢
    have hi1 := hi.1
    have hul := hi.2.1.len
    refine cd_seq ?_
    refine cd_region ?_
    refine st (ev_lss rfl rfl) rfl rfl rfl ?_
    refine op_nil ?_
    refine ax_then ?_
    refine At.regs (L' := [(1, _), (2, _), (3, _), (12, _), (13, _)]) (.cons rfl (.cons rfl (.cons rfl (.cons rfl (.cons rfl (.nil _)))))) ?_
    refine cd_seq ?_
    refine cd_if rfl (fun hc13 => ?_) (fun hc13 => ?_)
    ·
      have hlt : l.length < 4 := by omega
      refine cd_skip ?_
      refine ax_then ?_
      refine At.regs (L' := [(1, _), (2, _), (3, _), (12, _), (13, _)]) (.cons rfl (.cons rfl (.cons rfl (.cons rfl (.cons rfl (.nil _)))))) ?_
      refine cd_seq ?_
      refine cd_block ?_
      refine cd_seq ?_
      refine cd_region ?_
      refine st (ev_move rfl) rfl rfl rfl ?_
      refine st (ev_assign rfl) rfl rfl rfl ?_
      refine op_nil ?_
      refine ax_then ?_
      refine At.regs (L' := [(1, _), (2, _), (3, _), (4, _), (12, _), (13, _), (14, _)]) (.cons rfl (.cons rfl (.cons rfl (.cons rfl (.cons rfl (.cons rfl (.cons rfl (.nil _)))))))) ?_
      refine cd_region ?_
      refine st (ev_move rfl) rfl rfl rfl ?_
      refine st (ld_mem_all (h := 5) ty117 rfl rfl rfl rfl) rfl rfl rfl ?_
      refine st_call has85 rfl (fun w1 sw => rn2 0 117 (wkeys_any b v bd rc w1 (sw.blk_eq (h := 0) rfl) (sw.sl_rd (h := 1) rfl) (sw.off 1 _ 0 _ rfl rfl _ (by simp [Ent.ids])) (by omega) (hi.2.1.byt hB))) (mod_blk2 rfl) rfl rfl (fun x17 hx17 => ?_)
      obtain ⟨bd2, rc2, v2, kd, u⟩ := x17
      dsimp only at hx17 ⊢
      refine at_fmap (h := 1) 1 rfl (fun w1 hh => hx17.1.rd w1 hh) hx17.1.blk hx17.1.nil ?_
      refine at_own_shape (h := 117) rfl (fun hs117 => ?_)
      refine st (ev_fieldAddr (b := _) Try.underlying27 (f := _) rfl ty25 (by decide) rfl) rfl rfl rfl ?_
      refine st (ev_indexAddr_arr Try.underlying25 ty24 rfl rfl (by omega) (by omega)) rfl rfl rfl ?_
      refine st_store 3 ty24 rfl rfl rfl rfl rfl (by intro u0 hu0; simp at hu0; rcases hu0 with rfl | rfl; exact hs117.2; rfl) (by rw [Rt.rootC_len _ _ (by omega), Int.toNat_natCast]; show 0 + 2 + l.length * 2 + 2 ≤ 10; omega) rfl ?_
      refine at_heq (i := 3) (v' := .blk (b3) (.cells (Rt.rootC (Rr.nVal r) (Rr.nVal (Rr.nRest r)) (l ++ [(u, kd)])).toArray 27)) rfl (by rw [← Rt.rootC_set _ _ (by omega) (u, kd), Int.toNat_natCast]; rfl) ?_
      refine op_nil ?_
      refine ax_block ?_
      refine ax_then ?_
      refine At.regs (L' := [(1, _), (2, _), (3, _), (4, _), (12, _), (13, _), (14, _), (15, _), (16, _), (17, _), (18, _), (19, _)]) (.cons rfl (.cons rfl (.cons rfl (.cons rfl (.cons rfl (.cons rfl (.cons rfl (.cons rfl (.cons rfl (.cons rfl (.cons rfl (.cons rfl (.nil _))))))))))))) ?_
      refine at_rows_own (h := 117) (i := 200) (H' := [(0, _), (2, _), (3, _)]) rfl rfl (.cons rfl (.cons rfl (.cons rfl (.nil _)))) rfl (fun b' hb' => ⟨0, _, rfl, by simpa [Ent.ids] using hb'⟩) (fun hf => ?_)
      refine cd_region ?_
      refine st (ev_add64 rfl rfl (by omega) (by omega)) rfl rfl rfl ?_
      refine st (ev_move rfl) rfl rfl rfl ?_
      refine op_nil ?_
      refine ax_eq (i := 12) (v' := .int .i64 ((l ++ [(u, kd)]).length : Nat)) rfl (by rw [List.length_append]; rfl) ?_
      refine ax_rows (i := 200) (rs' := Rt.rowsR (l ++ [(u, kd)])) rfl (fun y hy => ((Rt.rowsR_snoc l (u, kd) y).1 hy).elim (fun e => e ▸ List.mem_cons_self ..) (fun h => List.mem_cons_of_mem _ h)) ?_
      exact at_again ((l ++ [(u, kd)], bd2, rc2, v2)) (⟨by show (l ++ [(u, kd)]).length ≤ 4; rw [List.length_append]; simp; omega, hi.2.1.trans hx17.1, by show Rt.RLoop false (bad || Rr.nBad r || Rr.nBad (Rr.nRest r)) (Rr.nRest (Rr.nRest r)) (Rt.kds (l ++ [(u, kd)])) bd2 rc2; rw [Rt.kds_snoc]; exact hi.2.2.1.step hx17.2, (fun y hy => by rcases (Rt.rowsR_snoc l (u, kd) y).1 hy with rfl | hy; exact hf; exact hi.2.2.2.1 y hy), (fun y hy => by rcases List.mem_append.1 hy with hy | hy; exact hi.2.2.2.2 y hy; rw [List.mem_singleton.1 hy]; exact hs117.2)⟩) (by show 4 - (l ++ [(u, kd)]).length < 4 - l.length; rw [List.length_append]; simp; omega) (.cons rfl (.cons rfl (.cons rfl (.cons rfl (.nil _))))) (.cons rfl (.cons rfl (.cons rfl (.nil _)))) (.cons rfl (.cons rfl (.cons rfl (.nil _))))
    ·
      have hl4 : l.length = 4 := by omega
      refine cd_exit ?_
      refine ax_then_exit ?_
      refine ax_then_exit ?_
      refine ax_block_hit ?_
      refine ax_then ?_
      refine At.regs (L' := [(2, _), (3, _)]) (.cons rfl (.cons rfl (.nil _))) ?_
      refine cd_seq ?_
      refine cd_region ?_
      refine st (ld_blk_all (h := 3) ty27 rfl rfl rfl (Rt.rootC_len _ _ (by omega))) rfl rfl rfl ?_
      refine st_store_all 2 ty27 rfl rfl rfl rfl (Rt.rootC_len _ _ (by omega)) (Rt.rootC_one _ _ hi.2.2.2.2) rfl rfl ?_
      refine op_nil ?_
      refine ax_then ?_
      refine At.regs (L' := [(2, _)]) (.cons rfl (.nil _)) ?_
      refine cd_ret ?_
      refine rt_cell (h0 := 2) (.inl rfl) Try.results56 ty27 rfl rfl rfl (Rt.rootC_len _ _ (by omega)) ?_
      exact fun w1 sw => ⟨(l, bd, rc, v), ⟨hl4, hi.2.2.2.2, hi.2.1, Rt.rrel hB (by rw [Rt.kds_len]; exact hl4) hi.2.2.1⟩, rfl, sw.gives (N := [(0, _)]) (.cons rfl (.nil _)), (fun y hy => ⟨sw.rd 200 _ rfl y hy, hi.2.2.2.1 y hy⟩), fun h e hh b' hb' => by
        obtain ⟨rfl, rfl⟩ := lk_one hh
        exact sw.off 200 _ 0 _ rfl rfl b' hb'⟩
end Go.Proofs.Ytgfnmolbagilmaa

namespace Go.Proofs.Ytgfnmolbagilmaa
open Go Go.RowKit Fw
open Sha
open Ots
open Mk
set_option linter.unusedVariables false
set_option linter.unusedSimpArgs false
set_option maxRecDepth 20000 in
set_option maxHeartbeats 2000000 in
theorem wiskeys_any (sv : Value) (ks : List (List Int)) (need : Int) (w : World) (hu : H32 ks) (hs0 : ks.length ≤ 140737488352000) (h : Rd w sv 32 (flat ks)) : Calls Try.prog 86 #[.agg (List.toArray [sv, .int .i64 need])] w (PostV w (.bool (decide (isK ks need)))) := by
  refine calls_at (vs := [.agg (List.toArray [sv, .int .i64 need])]) (X := []) (H := []) (F := [(20, .sl (sv) 32 (flat (ks)))]) 43 Try.func86 rfl rfl rfl (Sat.rd0 20 h) ?_
  refine cd_seq ?_
  refine cd_region ?_
  refine st_box (h := 1) rfl rfl rfl rfl (fun b1 => ?_)
  refine st (ev_assign rfl) rfl rfl rfl ?_
  refine op_nil ?_
  refine ax_then ?_
  refine At.regs (L' := [(1, _), (2, _)]) (.cons rfl (.cons rfl (.nil _))) ?_
  refine cd_seq ?_
  refine cd_seq ?_
  refine cd_region ?_
  refine st (ev_fieldAddr (b := _) Try.underlying24 (f := _) rfl ty22 (by decide) rfl) rfl rfl rfl ?_
  refine st (ld_blk1 (h := 1) ty22 rfl rfl rfl rfl) rfl rfl rfl ?_
  refine st (ev_len_rdh (h := 20) Try.underlying22 rfl rfl (by assumption)) rfl rfl rfl ?_
  refine st (ev_lss rfl rfl) rfl rfl rfl ?_
  refine st (ev_move rfl) rfl rfl rfl ?_
  refine at_split_if (i := 9) rfl (fun hg9 => ?_) (fun hg9 => ?_)
  ·
    refine st_skip rfl rfl rfl ?_
    refine st_skip rfl rfl rfl ?_
    refine st_skip rfl rfl rfl ?_
    refine st_skip rfl rfl rfl ?_
    refine st (ev_pick_t rfl rfl) rfl rfl rfl ?_
    refine st (ev_move rfl) rfl rfl rfl ?_
    refine st_skip rfl rfl rfl ?_
    refine st_skip rfl rfl rfl ?_
    refine st_skip rfl rfl rfl ?_
    refine st (ev_pick_t rfl rfl) rfl rfl rfl ?_
    refine st (ev_move rfl) rfl rfl rfl ?_
    refine st_skip rfl rfl rfl ?_
    refine st_skip rfl rfl rfl ?_
    refine st_skip rfl rfl rfl ?_
    refine st_skip rfl rfl rfl ?_
    refine st_skip rfl rfl rfl ?_
    refine st_skip rfl rfl rfl ?_
    refine st (ev_pick_t rfl rfl) rfl rfl rfl ?_
    refine op_nil ?_
    refine ax_then ?_
    refine At.regs (L' := [(1, _), (2, _), (27, _)]) (.cons rfl (.cons rfl (.cons rfl (.nil _)))) ?_
    refine cd_true rfl ?_
    refine cd_seq ?_
    refine cd_region ?_
    refine st (ev_assign rfl) rfl rfl rfl ?_
    refine op_nil ?_
    refine ax_then ?_
    refine At.regs (L' := [(1, _), (2, _)]) (.cons rfl (.cons rfl (.nil _))) ?_
    refine cd_ret ?_
    refine ax_then_ret ?_
    refine rt_tmp (.inl rfl) Try.results86 rfl ?_
    exact fun w1 sw => ⟨congrArg (fun b => Ending.returned (Value.bool b)) (decide_eq_false (fun hh => by obtain ⟨_, a1, a2, a3, a4⟩ := hh; omega)).symm, sw.gives (.nil _)⟩
  ·
    refine st (ev_fieldAddr (b := _) Try.underlying24 (f := _) rfl ty22 (by decide) rfl) rfl rfl rfl ?_
    refine st (ld_blk1 (h := 1) ty22 rfl rfl rfl rfl) rfl rfl rfl ?_
    refine st (ev_len_rdh (h := 20) Try.underlying22 rfl rfl (by assumption)) rfl rfl rfl ?_
    refine st (ev_gtr rfl rfl) rfl rfl rfl ?_
    refine st (ev_pick_f rfl rfl) rfl rfl rfl ?_
    refine st (ev_move rfl) rfl rfl rfl ?_
    refine at_split_if (i := 15) rfl (fun hg15 => ?_) (fun hg15 => ?_)
    ·
      refine st_skip rfl rfl rfl ?_
      refine st_skip rfl rfl rfl ?_
      refine st_skip rfl rfl rfl ?_
      refine st (ev_pick_t rfl rfl) rfl rfl rfl ?_
      refine st (ev_move rfl) rfl rfl rfl ?_
      refine st_skip rfl rfl rfl ?_
      refine st_skip rfl rfl rfl ?_
      refine st_skip rfl rfl rfl ?_
      refine st_skip rfl rfl rfl ?_
      refine st_skip rfl rfl rfl ?_
      refine st_skip rfl rfl rfl ?_
      refine st (ev_pick_t rfl rfl) rfl rfl rfl ?_
      refine op_nil ?_
      refine ax_then ?_
      refine At.regs (L' := [(1, _), (2, _), (27, _)]) (.cons rfl (.cons rfl (.cons rfl (.nil _)))) ?_
      refine cd_true rfl ?_
      refine cd_seq ?_
      refine cd_region ?_
      refine st (ev_assign rfl) rfl rfl rfl ?_
      refine op_nil ?_
      refine ax_then ?_
      refine At.regs (L' := [(1, _), (2, _)]) (.cons rfl (.cons rfl (.nil _))) ?_
      refine cd_ret ?_
      refine ax_then_ret ?_
      refine rt_tmp (.inl rfl) Try.results86 rfl ?_
      exact fun w1 sw => ⟨congrArg (fun b => Ending.returned (Value.bool b)) (decide_eq_false (fun hh => by obtain ⟨_, a1, a2, a3, a4⟩ := hh; omega)).symm, sw.gives (.nil _)⟩
    ·
      refine st (ev_fieldAddr (b := _) Try.underlying24 (f := _) rfl ty3 (by decide) rfl) rfl rfl rfl ?_
      refine st (ld_blk1 (h := 1) ty3 rfl rfl rfl rfl) rfl rfl rfl ?_
      refine st (ev_lss rfl rfl) rfl rfl rfl ?_
      refine st (ev_pick_f rfl rfl) rfl rfl rfl ?_
      refine st (ev_move rfl) rfl rfl rfl ?_
      refine at_split_if (i := 20) rfl (fun hg20 => ?_) (fun hg20 => ?_)
      ·
        refine st_skip rfl rfl rfl ?_
        refine st_skip rfl rfl rfl ?_
        refine st_skip rfl rfl rfl ?_
        refine st_skip rfl rfl rfl ?_
        refine st_skip rfl rfl rfl ?_
        refine st_skip rfl rfl rfl ?_
        refine st (ev_pick_t rfl rfl) rfl rfl rfl ?_
        refine op_nil ?_
        refine ax_then ?_
        refine At.regs (L' := [(1, _), (2, _), (27, _)]) (.cons rfl (.cons rfl (.cons rfl (.nil _)))) ?_
        refine cd_true rfl ?_
        refine cd_seq ?_
        refine cd_region ?_
        refine st (ev_assign rfl) rfl rfl rfl ?_
        refine op_nil ?_
        refine ax_then ?_
        refine At.regs (L' := [(1, _), (2, _)]) (.cons rfl (.cons rfl (.nil _))) ?_
        refine cd_ret ?_
        refine ax_then_ret ?_
        refine rt_tmp (.inl rfl) Try.results86 rfl ?_
        exact fun w1 sw => ⟨congrArg (fun b => Ending.returned (Value.bool b)) (decide_eq_false (fun hh => by obtain ⟨_, a1, a2, a3, a4⟩ := hh; omega)).symm, sw.gives (.nil _)⟩
      ·
        refine st (ev_fieldAddr (b := _) Try.underlying24 (f := _) rfl ty3 (by decide) rfl) rfl rfl rfl ?_
        refine st (ld_blk1 (h := 1) ty3 rfl rfl rfl rfl) rfl rfl rfl ?_
        refine st (ev_fieldAddr (b := _) Try.underlying24 (f := _) rfl ty22 (by decide) rfl) rfl rfl rfl ?_
        refine st (ld_blk1 (h := 1) ty22 rfl rfl rfl rfl) rfl rfl rfl ?_
        refine st (ev_len_rdh (h := 20) Try.underlying22 rfl rfl (by assumption)) rfl rfl rfl ?_
        refine st (ev_gtr rfl rfl) rfl rfl rfl ?_
        refine st (ev_pick_f rfl rfl) rfl rfl rfl ?_
        refine op_nil ?_
        refine ax_then ?_
        refine At.regs (L' := [(1, _), (2, _), (27, _)]) (.cons rfl (.cons rfl (.cons rfl (.nil _)))) ?_
        refine cd_if rfl (fun hc27 => ?_) (fun hc27 => ?_)
        ·
          refine cd_seq ?_
          refine cd_region ?_
          refine st (ev_assign rfl) rfl rfl rfl ?_
          refine op_nil ?_
          refine ax_then ?_
          refine At.regs (L' := [(1, _), (2, _)]) (.cons rfl (.cons rfl (.nil _))) ?_
          refine cd_ret ?_
          refine ax_then_ret ?_
          refine rt_tmp (.inl rfl) Try.results86 rfl ?_
          exact fun w1 sw => ⟨congrArg (fun b => Ending.returned (Value.bool b)) (decide_eq_false (fun hh => by obtain ⟨_, a1, a2, a3, a4⟩ := hh; omega)).symm, sw.gives (.nil _)⟩
        ·
          have hbas : bas ks need := ⟨by omega, by omega, by omega, by omega⟩
          refine cd_skip ?_
          refine ax_then ?_
          refine At.regs (L' := [(1, _), (2, _)]) (.cons rfl (.cons rfl (.nil _))) ?_
          refine cd_seq ?_
          refine cd_seq ?_
          refine cd_region ?_
          refine st (ev_fieldAddr (b := _) Try.underlying24 (f := _) rfl ty22 (by decide) rfl) rfl rfl rfl ?_
          refine st (ld_blk1 (h := 1) ty22 rfl rfl rfl rfl) rfl rfl rfl ?_
          refine st (ev_len_rdh (h := 20) Try.underlying22 rfl rfl (by assumption)) rfl rfl rfl ?_
          refine st (ev_move rfl) rfl rfl rfl ?_
          refine op_nil ?_
          refine ax_then ?_
          refine At.regs (L' := [(1, _), (2, _), (29, _), (30, _), (31, _)]) (.cons rfl (.cons rfl (.cons rfl (.cons rfl (.cons rfl (.nil _)))))) ?_
          refine cd_block ?_
          refine cd_loop (ι := Nat) (fun i => i ≤ ks.length ∧ ∀ a, a < i → ¬ 0 ≤ idx (ks.take a) (ks.getD a [])) (fun i => ks.length - i)
              (fun i => [(1, .pointer (some ⟨b1, 0, none⟩)), (29, sv), (30, .int .i64 (ks.length : Nat)), (31, .int .i64 (i : Int))])
              (fun i => [(1, .blk b1 (.cells ([sv, .int .i64 need]).toArray 24))])
              (fun i => [(20, .sl (sv) 32 (flat (ks)))])
              0 (⟨by omega, fun j hj => by omega⟩) (.cons rfl (.cons rfl (.cons rfl (.cons rfl (.nil _))))) (.cons rfl (.nil _)) (.cons rfl (.nil _)) (fun i hi => ?_)
          have hi1 := hi.1
          have e0 : (i : Int).toNat = i := by omega
          refine cd_seq ?_
          refine cd_region ?_
          refine st (ev_lss rfl rfl) rfl rfl rfl ?_
          refine op_nil ?_
          refine ax_then ?_
          refine At.regs (L' := [(1, _), (29, _), (30, _), (31, _), (32, _)]) (.cons rfl (.cons rfl (.cons rfl (.cons rfl (.cons rfl (.nil _)))))) ?_
          refine cd_seq ?_
          refine cd_if rfl (fun hc32 => ?_) (fun hc32 => ?_)
          ·
            refine cd_skip ?_
            refine ax_then ?_
            refine At.regs (L' := [(1, _), (29, _), (30, _), (31, _), (32, _)]) (.cons rfl (.cons rfl (.cons rfl (.cons rfl (.cons rfl (.nil _)))))) ?_
            refine cd_seq ?_
            refine cd_block ?_
            refine cd_seq ?_
            refine cd_region ?_
            refine st (ev_move rfl) rfl rfl rfl ?_
            refine st (ev_indexAddr_rdh (h := 20) Try.underlying22 ty55 rfl rfl rfl (by assumption) (by omega) (by omega)) rfl rfl rfl ?_
            refine st (ld_rdh (h := 20) ty55 rfl rfl rfl (by assumption) (by omega)) rfl rfl rfl ?_
            refine at_eq (i := 35) (v' := .agg (ints .u8 (ks.getD i [])).toArray) rfl (by rw [e0]) ?_
            have hgl := hu.get (i := i) (by omega)
            refine st_alloc (h := 4) ty55 rfl rfl rfl (fun b4 => ?_)
            refine st (ev_assign rfl) rfl rfl rfl ?_
            refine st_store_all 4 ty55 rfl rfl rfl rfl (by first | omega | (simp only [List.length_append, List.length_cons, List.length_nil, List.length_set, List.length_replicate, List.length_take, List.length_drop, ints_length, wr_length, sha_len, node_len, recov_len, Ky.named_len, Ky.keyPub_len, Ky.hashOf_len] <;> omega) | rfl) (ints_one _ _) (by first | omega | (simp only [List.length_append, List.length_cons, List.length_nil, List.length_set, List.length_replicate, List.length_take, List.length_drop, ints_length, wr_length, sha_len, node_len, recov_len, Ky.named_len, Ky.keyPub_len, Ky.hashOf_len] <;> omega) | rfl) rfl ?_
            refine op_nil ?_
            refine ax_then ?_
            refine At.regs (L' := [(1, _), (3, _), (4, _), (29, _), (30, _), (31, _), (32, _), (33, _), (34, _), (35, _)]) (.cons rfl (.cons rfl (.cons rfl (.cons rfl (.cons rfl (.cons rfl (.cons rfl (.cons rfl (.cons rfl (.cons rfl (.nil _))))))))))) ?_
            refine cd_seq ?_
            refine cd_open hmix (by decide +kernel) ?_
            refine qt (ev_fieldAddr (b := _) Try.underlying24 (f := _) rfl ty22 (by decide) rfl) rfl rfl rfl ?_
            refine qt (ld_blk1 (h := 1) ty22 rfl rfl rfl rfl) rfl rfl rfl ?_
            refine qt (ev_move rfl) rfl rfl rfl ?_
            refine qt (ev_sliceh_hi Try.underlying22 ty55 rfl rfl (fun w1 sw => sw.sl_rd (h := 20) rfl) (by assumption) (by omega) (by first | omega | (simp only [List.length_append, List.length_cons, List.length_nil, List.length_set, List.length_replicate, List.length_take, List.length_drop, ints_length, wr_length, sha_len, node_len, recov_len, Ky.named_len, Ky.keyPub_len, Ky.hashOf_len] <;> omega))) rfl rfl rfl ?_
            refine qt_eq (i := 39) (v' := cutAt 32 sv 0 i) rfl (by rw [e0]) ?_
            refine qt (ld_blk_all (h := 4) ty55 rfl rfl rfl (by first | omega | (simp only [List.length_append, List.length_cons, List.length_nil, List.length_set, List.length_replicate, List.length_take, List.length_drop, ints_length, wr_length, sha_len, node_len, recov_len, Ky.named_len, Ky.keyPub_len, Ky.hashOf_len] <;> omega) | rfl)) rfl rfl rfl ?_
            refine qt_callv has89 rfl (fun w1 sw => contains_any (cutAt 32 sv 0 i) (ks.take i) (ks.getD i []) w1 (hu.take i) hgl (by rw [List.length_take]; omega) (takeh (sw.sl_rd (h := 20) rfl) hu (by omega))) rfl rfl ?_
            refine qt_end ?_
            refine op_nil ?_
            refine ax_then ?_
            refine At.regs (L' := [(1, _), (3, _), (4, _), (29, _), (30, _), (31, _), (32, _), (33, _), (34, _), (35, _), (36, _), (37, _), (38, _), (39, _), (40, _), (41, _)]) (.cons rfl (.cons rfl (.cons rfl (.cons rfl (.cons rfl (.cons rfl (.cons rfl (.cons rfl (.cons rfl (.cons rfl (.cons rfl (.cons rfl (.cons rfl (.cons rfl (.cons rfl (.cons rfl (.nil _))))))))))))))))) ?_
            refine cd_if rfl (fun hc41 => ?_) (fun hc41 => ?_)
            ·
              refine cd_seq ?_
              refine cd_region ?_
              refine st (ev_assign rfl) rfl rfl rfl ?_
              refine op_nil ?_
              refine ax_then ?_
              refine At.regs (L' := [(1, _), (2, _), (3, _), (4, _), (29, _), (30, _), (31, _), (32, _), (33, _), (34, _), (35, _), (36, _), (37, _), (38, _), (39, _), (40, _), (41, _)]) (.cons rfl (.cons rfl (.cons rfl (.cons rfl (.cons rfl (.cons rfl (.cons rfl (.cons rfl (.cons rfl (.cons rfl (.cons rfl (.cons rfl (.cons rfl (.cons rfl (.cons rfl (.cons rfl (.cons rfl (.nil _)))))))))))))))))) ?_
              refine cd_ret ?_
              refine ax_block_ret ?_
              refine ax_then_ret ?_
              refine ax_then_ret ?_
              refine ax_block_ret ?_
              refine ax_then_ret ?_
              refine rt_tmp (.inl rfl) Try.results86 rfl ?_
              exact fun w1 sw => ⟨congrArg (fun b => Ending.returned (Value.bool b)) (decide_eq_false (fun hh => hh.1 i (by omega) hc41)).symm, sw.gives (.nil _)⟩
            ·
              refine cd_skip ?_
              refine ax_block ?_
              refine ax_then ?_
              refine At.regs (L' := [(1, _), (3, _), (4, _), (29, _), (30, _), (31, _), (32, _), (33, _), (34, _), (35, _), (36, _), (37, _), (38, _), (39, _), (40, _), (41, _)]) (.cons rfl (.cons rfl (.cons rfl (.cons rfl (.cons rfl (.cons rfl (.cons rfl (.cons rfl (.cons rfl (.cons rfl (.cons rfl (.cons rfl (.cons rfl (.cons rfl (.cons rfl (.cons rfl (.nil _))))))))))))))))) ?_
              refine cd_region ?_
              refine st (ev_add64 rfl rfl (by omega) (by omega)) rfl rfl rfl ?_
              refine st (ev_move rfl) rfl rfl rfl ?_
              refine op_nil ?_
              exact at_again (i + 1) (⟨by omega, fun j hj => (Nat.lt_succ_iff_lt_or_eq.1 hj).elim (hi.2 j) (fun e => by subst e; exact hc41)⟩) (by omega) (.cons rfl (.cons rfl (.cons rfl (.cons rfl (.nil _))))) (.cons rfl (.nil _)) (.cons rfl (.nil _))
          ·
            obtain rfl : i = ks.length := by omega
            refine cd_exit ?_
            refine ax_then_exit ?_
            refine ax_then_exit ?_
            refine ax_block_hit ?_
            refine ax_then ?_
            refine At.regs (L' := []) (.nil _) ?_
            refine cd_seq ?_
            refine cd_region ?_
            refine st (ev_assign rfl) rfl rfl rfl ?_
            refine op_nil ?_
            refine ax_then ?_
            refine At.regs (L' := [(2, _)]) (.cons rfl (.nil _)) ?_
            refine cd_ret ?_
            refine rt_tmp (.inl rfl) Try.results86 rfl ?_
            exact fun w1 sw => ⟨congrArg (fun b => Ending.returned (Value.bool b)) (decide_eq_true ⟨hi.2, hbas.1, hbas.2.1, hbas.2.2.1, hbas.2.2.2⟩).symm, sw.gives (.nil _)⟩
set_option maxRecDepth 20000 in
set_option maxHeartbeats 1000000 in
theorem wver_any (n : Int) (w : World) : Calls Try.prog 87 #[.int .i64 n] w (PostV w (.bool (decide (1 ≤ n ∧ n ≤ 1073741824)))) := by
  refine calls_at (vs := [.int .i64 n]) (X := []) (H := []) (F := []) 9 Try.func87 rfl rfl rfl (Sat.start0 w) ?_
  refine cd_seq ?_
  refine cd_region ?_
  refine st (ev_assign rfl) rfl rfl rfl ?_
  refine op_nil ?_
  refine ax_then ?_
  refine At.regs (L' := [(0, _), (2, _)]) (.cons rfl (.cons rfl (.nil _))) ?_
  refine cd_seq ?_
  refine cd_region ?_
  refine st (ev_move rfl) rfl rfl rfl ?_
  refine st (ev_geq rfl rfl) rfl rfl rfl ?_
  refine st (ev_move rfl) rfl rfl rfl ?_
  refine at_split_if (i := 5) rfl (fun hg5 => ?_) (fun hg5 => ?_)
  ·
    refine st (ev_move rfl) rfl rfl rfl ?_
    refine st (ev_leq rfl rfl) rfl rfl rfl ?_
    refine st (ev_pick_t rfl rfl) rfl rfl rfl ?_
    refine st (ev_assign rfl) rfl rfl rfl ?_
    refine op_nil ?_
    refine ax_then ?_
    refine At.regs (L' := [(2, _)]) (.cons rfl (.nil _)) ?_
    refine cd_ret ?_
    refine rt_tmp (.inl rfl) Try.results87 rfl ?_
    exact fun w1 sw => ⟨congrArg (fun b => Ending.returned (Value.bool b)) (by first | exact (decide_eq_false (fun hh => hg5 hh.1)).symm | exact decide_eq_decide.2 ⟨fun hh => ⟨hg5, hh⟩, fun hh => hh.2⟩), sw.gives (.nil _)⟩
  ·
    refine st_skip rfl rfl rfl ?_
    refine st_skip rfl rfl rfl ?_
    refine st (ev_pick_f rfl rfl) rfl rfl rfl ?_
    refine st (ev_assign rfl) rfl rfl rfl ?_
    refine op_nil ?_
    refine ax_then ?_
    refine At.regs (L' := [(2, _)]) (.cons rfl (.nil _)) ?_
    refine cd_ret ?_
    refine rt_tmp (.inl rfl) Try.results87 rfl ?_
    exact fun w1 sw => ⟨congrArg (fun b => Ending.returned (Value.bool b)) (by first | exact (decide_eq_false (fun hh => hg5 hh.1)).symm | exact decide_eq_decide.2 ⟨fun hh => ⟨hg5, hh⟩, fun hh => hh.2⟩), sw.gives (.nil _)⟩
set_option maxRecDepth 20000 in
set_option maxHeartbeats 1000000 in
theorem wnum0_any (n : Int) (w : World) : Calls Try.prog 88 #[.int .i64 n] w (PostV w (.bool (decide (0 ≤ n ∧ n ≤ 1073741824)))) := by
  refine calls_at (vs := [.int .i64 n]) (X := []) (H := []) (F := []) 9 Try.func88 rfl rfl rfl (Sat.start0 w) ?_
  refine cd_seq ?_
  refine cd_region ?_
  refine st (ev_assign rfl) rfl rfl rfl ?_
  refine op_nil ?_
  refine ax_then ?_
  refine At.regs (L' := [(0, _), (2, _)]) (.cons rfl (.cons rfl (.nil _))) ?_
  refine cd_seq ?_
  refine cd_region ?_
  refine st (ev_move rfl) rfl rfl rfl ?_
  refine st (ev_geq rfl rfl) rfl rfl rfl ?_
  refine st (ev_move rfl) rfl rfl rfl ?_
  refine at_split_if (i := 5) rfl (fun hg5 => ?_) (fun hg5 => ?_)
  ·
    refine st (ev_move rfl) rfl rfl rfl ?_
    refine st (ev_leq rfl rfl) rfl rfl rfl ?_
    refine st (ev_pick_t rfl rfl) rfl rfl rfl ?_
    refine st (ev_assign rfl) rfl rfl rfl ?_
    refine op_nil ?_
    refine ax_then ?_
    refine At.regs (L' := [(2, _)]) (.cons rfl (.nil _)) ?_
    refine cd_ret ?_
    refine rt_tmp (.inl rfl) Try.results88 rfl ?_
    exact fun w1 sw => ⟨congrArg (fun b => Ending.returned (Value.bool b)) (by first | exact (decide_eq_false (fun hh => hg5 hh.1)).symm | exact decide_eq_decide.2 ⟨fun hh => ⟨hg5, hh⟩, fun hh => hh.2⟩), sw.gives (.nil _)⟩
  ·
    refine st_skip rfl rfl rfl ?_
    refine st_skip rfl rfl rfl ?_
    refine st (ev_pick_f rfl rfl) rfl rfl rfl ?_
    refine st (ev_assign rfl) rfl rfl rfl ?_
    refine op_nil ?_
    refine ax_then ?_
    refine At.regs (L' := [(2, _)]) (.cons rfl (.nil _)) ?_
    refine cd_ret ?_
    refine rt_tmp (.inl rfl) Try.results88 rfl ?_
    exact fun w1 sw => ⟨congrArg (fun b => Ending.returned (Value.bool b)) (by first | exact (decide_eq_false (fun hh => hg5 hh.1)).symm | exact decide_eq_decide.2 ⟨fun hh => ⟨hg5, hh⟩, fun hh => hh.2⟩), sw.gives (.nil _)⟩
theorem ext_rols {l : List Rt.Rol} {i : Nat} (hi : i < l.length) : (Rt.rolsC l).toArray.extract (i * 2) (i * 2 + 2) = (List.toArray [(l.getD i Rt.rol0).1, .int .i64 (l.getD i Rt.rol0).2.need]) := by
  have h := Rt.rolsC_get hi
  have e : (Rt.rolsC l).toArray.extract (i * 2) (i * 2 + 2) = (((Rt.rolsC l).drop (i * 2)).take 2).toArray := by
    apply Array.ext'
    rw [Array.toList_extract]
    simp [List.extract]
  rw [e, h]
  rfl
set_option maxRecDepth 20000 in
set_option maxHeartbeats 4000000 in
theorem wisroot_any (ver exp : Int) (l : List Rt.Rol) (w : World) (hl : l.length = 4) (hone : ∀ x, x ∈ l → x.1.oneCell' = true) (hu : ∀ k, k ∈ Rt.kds l → H32 k.ks) (hkl : ∀ k, k ∈ Rt.kds l → k.ks.length ≤ 140737488352000) (h : ∀ y, y ∈ Rt.rowsR l → Rd w y.1 y.2.1 y.2.2) : Calls Try.prog 57 #[.agg (List.toArray (Rt.rootC ver exp l))] w (PostV w (.bool (decide (Rt.isRt (⟨ver, exp, Rt.kds l⟩ : Rt.RT))))) := by
  refine calls_at (vs := [.agg (List.toArray (Rt.rootC ver exp l))]) (X := []) (H := []) (F := [(200, .rows (Rt.rowsR l))]) 22 Try.func57 rfl rfl rfl ((Sat.start0 w).read (f := .rows (Rt.rowsR l)) 200 h off_nil) ?_
  refine cd_seq ?_
  refine cd_region ?_
  refine st_box (h := 1) rfl rfl rfl rfl (fun b1 => ?_)
  refine st (ev_assign rfl) rfl rfl rfl ?_
  refine op_nil ?_
  refine ax_then ?_
  refine At.regs (L' := [(1, _), (2, _)]) (.cons rfl (.cons rfl (.nil _))) ?_
  refine cd_seq ?_
  refine cd_seq ?_
  refine cd_region ?_
  refine st (ev_fieldAddr (b := _) Try.underlying27 (f := _) rfl ty25 (by decide) rfl) rfl rfl rfl ?_
  refine st (ld_blk (h := 1) ty25 rfl rfl rfl (by rw [Rt.rootC_len _ _ (by omega)]; decide)) rfl rfl rfl ?_
  refine at_eq (i := 6) (v' := .agg (List.toArray (Rt.rolsC l))) rfl (congrArg (fun x => Value.agg (List.toArray x)) (Rt.rootC_rols _ _ hl)) ?_
  refine st (ev_move rfl) rfl rfl rfl ?_
  refine op_nil ?_
  refine ax_then ?_
  refine At.regs (L' := [(1, _), (2, _), (6, _), (7, _)]) (.cons rfl (.cons rfl (.cons rfl (.cons rfl (.nil _))))) ?_
  refine cd_block ?_
  refine cd_loop (ι := Nat) (fun i => i ≤ 4 ∧ ∀ j, j < i → isK (l.getD j Rt.rol0).2.ks (l.getD j Rt.rol0).2.need) (fun i => 4 - i)
      (fun i => [(1, .pointer (some ⟨b1, 0, none⟩)), (6, .agg (List.toArray (Rt.rolsC l))), (7, .int .i64 (i : Int))])
      (fun i => [(1, .blk (b1) (.cells (Rt.rootC ver exp l).toArray 27))])
      (fun i => [(200, .rows (Rt.rowsR l))])
      0 (⟨by omega, fun j hj => by omega⟩) (.cons rfl (.cons rfl (.cons rfl (.nil _)))) (.cons rfl (.nil _)) (.cons rfl (.nil _)) (fun i hi => ?_)
  have hi1 := hi.1
  have e0 : (i : Int).toNat = i := by omega
  refine cd_seq ?_
  refine cd_region ?_
  refine st (ev_lss rfl rfl) rfl rfl rfl ?_
  refine op_nil ?_
  refine ax_then ?_
  refine At.regs (L' := [(1, _), (6, _), (7, _), (8, _)]) (.cons rfl (.cons rfl (.cons rfl (.cons rfl (.nil _))))) ?_
  refine cd_seq ?_
  refine cd_if rfl (fun hc8 => ?_) (fun hc8 => ?_)
  ·
    have hlt : i < 4 := by omega
    have hoi : (l.getD i Rt.rol0).1.oneCell' = true := hone _ (by rw [List.getD_eq_getElem?_getD, List.getElem?_eq_getElem (by omega)]; exact List.getElem_mem _)
    refine cd_skip ?_
    refine ax_then ?_
    refine At.regs (L' := [(1, _), (6, _), (7, _), (8, _)]) (.cons rfl (.cons rfl (.cons rfl (.cons rfl (.nil _))))) ?_
    refine cd_seq ?_
    refine cd_block ?_
    refine cd_seq ?_
    refine cd_region ?_
    refine st (ev_index Try.underlying25 ty24 rfl rfl rfl (by omega) (by omega)) rfl rfl rfl ?_
    refine at_eq (i := 9) (v' := .agg (List.toArray [(l.getD i Rt.rol0).1, .int .i64 (l.getD i Rt.rol0).2.need])) rfl (congrArg Value.agg (by rw [e0]; exact ext_rols (by omega))) ?_
    refine st_alloc (h := 4) ty24 rfl rfl rfl (fun b4 => ?_)
    refine st_store_all 4 ty24 rfl rfl rfl rfl rfl (by intro u0 hu0; simp at hu0; rcases hu0 with rfl | rfl; simpa using hoi; rfl) rfl rfl ?_
    refine op_nil ?_
    refine ax_then ?_
    refine At.regs (L' := [(1, _), (4, _), (6, _), (7, _), (8, _), (9, _)]) (.cons rfl (.cons rfl (.cons rfl (.cons rfl (.cons rfl (.cons rfl (.nil _))))))) ?_
    refine cd_seq ?_
    refine cd_region ?_
    refine st (ld_blk_all (h := 4) ty24 rfl rfl rfl (by first | omega | (simp only [List.length_append, List.length_cons, List.length_nil, List.length_set, List.length_replicate, List.length_take, List.length_drop, ints_length, wr_length, sha_len, node_len, recov_len, Ky.named_len, Ky.keyPub_len, Ky.hashOf_len] <;> omega) | rfl)) rfl rfl rfl ?_
    refine st_callv has86 rfl (fun w1 sw => wiskeys_any (l.getD i Rt.rol0).1 (l.getD i Rt.rol0).2.ks (l.getD i Rt.rol0).2.need w1 (hu _ (Rt.kds_get (by omega))) (hkl _ (Rt.kds_get (by omega))) (sw.row (i := 200) rfl (Rt.rowsR_mem (by omega)))) rfl rfl ?_
    refine st (ev_not_if rfl) rfl rfl rfl ?_
    refine op_nil ?_
    refine ax_then ?_
    refine At.regs (L' := [(1, _), (4, _), (6, _), (7, _), (8, _), (9, _), (10, _), (11, _), (12, _)]) (.cons rfl (.cons rfl (.cons rfl (.cons rfl (.cons rfl (.cons rfl (.cons rfl (.cons rfl (.cons rfl (.nil _)))))))))) ?_
    refine cd_if rfl (fun hc12 => ?_) (fun hc12 => ?_)
    ·
      refine cd_seq ?_
      refine cd_region ?_
      refine st (ev_assign rfl) rfl rfl rfl ?_
      refine op_nil ?_
      refine ax_then ?_
      refine At.regs (L' := [(1, _), (2, _), (4, _), (6, _), (7, _), (8, _), (9, _), (10, _), (11, _), (12, _)]) (.cons rfl (.cons rfl (.cons rfl (.cons rfl (.cons rfl (.cons rfl (.cons rfl (.cons rfl (.cons rfl (.cons rfl (.nil _))))))))))) ?_
      refine cd_ret ?_
      refine ax_block_ret ?_
      refine ax_then_ret ?_
      refine ax_then_ret ?_
      refine ax_block_ret ?_
      refine ax_then_ret ?_
      refine rt_tmp (.inl rfl) Try.results57 rfl ?_
      exact fun w1 sw => ⟨congrArg (fun b => Ending.returned (Value.bool b)) (by exact (decide_eq_false (fun hh => hc12 (hh.1 _ (Rt.kds_get (by omega))))).symm), sw.gives (.nil _)⟩
    ·
      refine cd_skip ?_
      refine ax_block ?_
      refine ax_then ?_
      refine At.regs (L' := [(1, _), (4, _), (6, _), (7, _), (8, _), (9, _), (10, _), (11, _), (12, _)]) (.cons rfl (.cons rfl (.cons rfl (.cons rfl (.cons rfl (.cons rfl (.cons rfl (.cons rfl (.cons rfl (.nil _)))))))))) ?_
      refine cd_region ?_
      refine st (ev_add64 rfl rfl (by omega) (by omega)) rfl rfl rfl ?_
      refine st (ev_move rfl) rfl rfl rfl ?_
      refine op_nil ?_
      exact at_again (i + 1) (⟨by omega, fun j hj => (Nat.lt_succ_iff_lt_or_eq.1 hj).elim (hi.2 j) (fun e => by subst e; exact Classical.not_not.1 hc12)⟩) (by omega) (.cons rfl (.cons rfl (.cons rfl (.nil _)))) (.cons rfl (.nil _)) (.cons rfl (.nil _))
  ·
    obtain rfl : i = 4 := by omega
    have hall : ∀ k, k ∈ Rt.kds l → isK k.ks k.need := fun k hk => by
      obtain ⟨x, hx, rfl⟩ := List.mem_map.1 hk
      obtain ⟨j, hj, rfl⟩ := List.getElem_of_mem hx
      have := hi.2 j (by omega)
      rwa [List.getD_eq_getElem?_getD, List.getElem?_eq_getElem hj] at this
    refine cd_exit ?_
    refine ax_then_exit ?_
    refine ax_then_exit ?_
    refine ax_block_hit ?_
    refine ax_then ?_
    refine At.regs (L' := [(1, _)]) (.cons rfl (.nil _)) ?_
    refine cd_seq ?_
    refine cd_region ?_
    refine st (ev_fieldAddr (b := _) Try.underlying27 (f := _) rfl ty3 (by decide) rfl) rfl rfl rfl ?_
    refine st (ld_blk1 (h := 1) ty3 rfl rfl rfl rfl) rfl rfl rfl ?_
    refine st_callv has87 rfl (fun w1 sw => wver_any ver w1) rfl rfl ?_
    refine st (ev_move rfl) rfl rfl rfl ?_
    refine at_split_if (i := 17) rfl (fun hg17 => ?_) (fun hg17 => ?_)
    ·
      refine st (ev_fieldAddr (b := _) Try.underlying27 (f := _) rfl ty3 (by decide) rfl) rfl rfl rfl ?_
      refine st (ld_blk1 (h := 1) ty3 rfl rfl rfl rfl) rfl rfl rfl ?_
      refine st_callv has88 rfl (fun w1 sw => wnum0_any exp w1) rfl rfl ?_
      refine st (ev_pick_t rfl rfl) rfl rfl rfl ?_
      refine st (ev_assign rfl) rfl rfl rfl ?_
      refine op_nil ?_
      refine ax_then ?_
      refine At.regs (L' := [(2, _)]) (.cons rfl (.nil _)) ?_
      refine cd_ret ?_
      refine rt_tmp (.inl rfl) Try.results57 rfl ?_
      exact fun w1 sw => ⟨congrArg (fun b => Ending.returned (Value.bool b)) (by exact decide_eq_decide.2 ⟨fun hh => ⟨hall, hg17.1, hg17.2, hh.1, hh.2⟩, fun hh => hh.2.2.2⟩), sw.gives (.nil _)⟩
    ·
      refine st_skip rfl rfl rfl ?_
      refine st_skip rfl rfl rfl ?_
      refine st_skip rfl rfl rfl ?_
      refine st (ev_pick_f rfl rfl) rfl rfl rfl ?_
      refine st (ev_assign rfl) rfl rfl rfl ?_
      refine op_nil ?_
      refine ax_then ?_
      refine At.regs (L' := [(2, _)]) (.cons rfl (.nil _)) ?_
      refine cd_ret ?_
      refine rt_tmp (.inl rfl) Try.results57 rfl ?_
      exact fun w1 sw => ⟨congrArg (fun b => Ending.returned (Value.bool b)) (by exact (decide_eq_false (fun hh => hg17 ⟨hh.2.1, hh.2.2.1⟩)).symm), sw.gives (.nil _)⟩
end Go.Proofs.Ytgfnmolbagilmaa

namespace Go.Proofs.Ytgfnmolbagilmaa
open Go Go.RowKit Fw
open Sha
open Ots
open Mk
set_option linter.unusedVariables false
set_option linter.unusedSimpArgs false
set_option maxRecDepth 20000 in
set_option maxHeartbeats 8000000 in
theorem wdecoded_any (pb : Value) (body : List Int) (w : World) (hbl : body.length ≤ 140737488351232) (hB : Byt body) (hbody : Rd w pb 1 (ints .u8 body)) : Calls Try.prog 55 #[pb, .int .i64 1, .func (.func 56) #[] #[], .func (.func 57) #[] #[]] w (PostR (ι := List Rt.Rol) w (fun l => l.length = 4 ∧ Rt.kds l = (Rt.dec body).1.roles ∧ ∀ x, x ∈ l → x.1.oneCell' = true) (fun l => .tuple #[.agg (List.toArray (Rt.rootC (Rt.dec body).1.ver (Rt.dec body).1.exp l)), .int .i64 (Rt.dec body).2]) (fun _ => []) (fun l => Rt.rowsR l)) := by
  have hl1 := Rr.nRest_len body
  refine calls_at (vs := [pb, .int .i64 1, .func (.func 56) #[] #[], .func (.func 57) #[] #[]]) (X := []) (H := []) (F := [(22, .sl (pb) 1 (ints .u8 (body)))]) 37 Try.func55 rfl rfl rfl (Sat.rd0 22 hbody) ?_
  refine cd_seq ?_
  refine cd_region ?_
  refine st_alloc (h := 8) ty27 rfl rfl rfl (fun b8 => ?_)
  refine st (ev_assign rfl) rfl rfl rfl ?_
  refine op_nil ?_
  refine ax_then ?_
  refine At.regs (L' := [(0, _), (1, _), (2, _), (3, _), (8, _), (9, _)]) (.cons rfl (.cons rfl (.cons rfl (.cons rfl (.cons rfl (.cons rfl (.nil _))))))) ?_
  refine cd_seq ?_
  refine cd_region ?_
  refine st (ev_move rfl) rfl rfl rfl ?_
  refine st_call has50 rfl (fun w1 sw => rn2 14 114 (newreader_any pb body w1 (by omega) (sw.sl_rd (h := 22) rfl))) nil_all rfl rfl (fun x14 _ => ?_)
  obtain ⟨b14, lv14⟩ := x14
  dsimp only
  refine at_freeze (h := 114) (H' := [(8, _), (14, _)]) 21 rfl (.cons rfl (.cons rfl (.nil _))) rfl ?_
  refine st (ev_build_struct ty117 rfl pl117 rfl ((fill_put (i := 0) (off := 0) (n := 1) (vs := [.pointer (some ⟨b14, 0, none⟩)]) rfl rfl rfl (Nat.le_of_ble_eq_true rfl)).trans fill_nil)) rfl rfl rfl ?_
  refine at_eq (i := 15) (v' := .agg (List.toArray [.pointer (some ⟨b14, 0, none⟩)])) rfl rfl ?_
  refine st_alloc (h := 10) ty117 rfl rfl rfl (fun b10 => ?_)
  refine st_store_all 10 ty117 rfl rfl rfl rfl rfl (by intro u0 hu0; simp at hu0; rw [hu0]; rfl) rfl rfl ?_
  refine op_nil ?_
  refine ax_then ?_
  refine At.regs (L' := [(1, _), (2, _), (3, _), (8, _), (9, _), (10, _)]) (.cons rfl (.cons rfl (.cons rfl (.cons rfl (.cons rfl (.cons rfl (.nil _))))))) ?_
  refine cd_seq ?_
  refine cd_region ?_
  refine st_alloc (h := 11) ty27 rfl rfl rfl (fun b11 => ?_)
  refine op_nil ?_
  refine ax_then ?_
  refine At.regs (L' := [(1, _), (2, _), (3, _), (8, _), (9, _), (10, _), (11, _)]) (.cons rfl (.cons rfl (.cons rfl (.cons rfl (.cons rfl (.cons rfl (.cons rfl (.nil _)))))))) ?_
  refine cd_seq ?_
  refine cd_seq ?_
  refine cd_region ?_
  refine st (ev_fieldAddr (b := _) Try.underlying117 (f := _) rfl ty107 (by decide) rfl) rfl rfl rfl ?_
  refine st (ld_blk1 (h := 10) ty107 rfl rfl rfl rfl) rfl rfl rfl ?_
  refine st_call has51 rfl (fun w1 sw => rn 14 (rnum_g b14 lv14 false body w1 (sw.blk_eq (h := 14) rfl) (sw.sl_rd (h := 21) rfl) (sw.off 21 _ 14 _ rfl rfl _ (by simp [Ent.ids])) (by omega))) (mod_blk rfl) rfl rfl (fun x18 hx18 => ?_)
  refine at_fmap (h := 21) 21 rfl (fun w1 hh => hx18.rd w1 hh) hx18.blk hx18.nil ?_
  refine st (ev_move rfl) rfl rfl rfl ?_
  refine st (ev_neq rfl rfl) rfl rfl rfl ?_
  refine op_nil ?_
  refine ax_then ?_
  refine At.regs (L' := [(2, _), (3, _), (8, _), (9, _), (10, _), (11, _), (20, _)]) (.cons rfl (.cons rfl (.cons rfl (.cons rfl (.cons rfl (.cons rfl (.cons rfl (.nil _)))))))) ?_
  refine cd_if rfl (fun hc20 => ?_) (fun hc20 => ?_)
  ·
    refine cd_seq ?_
    refine cd_region ?_
    refine st (ld_blk_all (h := 11) ty27 rfl rfl rfl rfl) rfl rfl rfl ?_
    refine st_store_all 8 ty27 rfl rfl rfl rfl (by first | omega | (simp only [List.length_append, List.length_cons, List.length_nil, List.length_set, List.length_replicate, List.length_take, List.length_drop, ints_length, wr_length, sha_len, node_len, recov_len, Ky.named_len, Ky.keyPub_len, Ky.hashOf_len] <;> omega) | rfl) (by first | (intro u hu; simp at hu; rcases hu with rfl | rfl <;> rfl) | (simp [Value.oneCell'])) (by first | omega | (simp only [List.length_append, List.length_cons, List.length_nil, List.length_set, List.length_replicate, List.length_take, List.length_drop, ints_length, wr_length, sha_len, node_len, recov_len, Ky.named_len, Ky.keyPub_len, Ky.hashOf_len] <;> omega) | rfl) rfl ?_
    refine st (ev_assign rfl) rfl rfl rfl ?_
    refine op_nil ?_
    refine ax_then ?_
    refine At.regs (L' := [(2, _), (3, _), (8, _), (9, _), (10, _), (11, _)]) (.cons rfl (.cons rfl (.cons rfl (.cons rfl (.cons rfl (.cons rfl (.nil _))))))) ?_
    refine cd_ret ?_
    refine ax_then_ret ?_
    refine rt_cell_tmp (h0 := 8) (.inl rfl) Try.results55 ty27 rfl rfl rfl (by first | omega | (simp only [List.length_append, List.length_cons, List.length_nil, List.length_set, List.length_replicate, List.length_take, List.length_drop, ints_length, wr_length, sha_len, node_len, recov_len, Ky.named_len, Ky.keyPub_len, Ky.hashOf_len] <;> omega) | rfl) rfl ?_
    exact fun w1 sw => ⟨Rt.zeros, ⟨rfl, by rw [Rt.dec_kind hc20]; rfl, Rt.zeros_one⟩, by rw [Rt.dec_kind hc20]; rfl, sw.gives (.nil _), Rt.zeros_rd, fun h e hh => (lk_nil hh).elim⟩
  ·
    refine cd_skip ?_
    refine ax_then ?_
    refine At.regs (L' := [(2, _), (3, _), (8, _), (9, _), (10, _), (11, _)]) (.cons rfl (.cons rfl (.cons rfl (.cons rfl (.cons rfl (.cons rfl (.nil _))))))) ?_
    refine cd_seq ?_
    refine cd_region ?_
    refine st (ev_move rfl) rfl rfl rfl ?_
    refine st (ld_blk_all (h := 10) ty117 rfl rfl rfl rfl) rfl rfl rfl ?_
    refine st_callRM_fn 200 has56 rfl rfl rfl (fun w1 sw => rnRM 14 (wroot_any b14 x18 (false || Rr.nBad body) (Rr.nRest body) w1 (sw.blk_eq (h := 14) rfl) (sw.sl_rd (h := 21) rfl) (sw.off 21 _ 14 _ rfl rfl _ (by simp [Ent.ids])) (by omega) (hx18.byt hB))) (mod_blk rfl) rfl rfl (fun x24 hx24 hf24 => ?_)
    obtain ⟨l, bd, rc, v⟩ := x24
    dsimp only at hx24 hf24 ⊢
    have hl4 := hx24.1
    have hrr := hx24.2.2.2
    refine st_alloc (h := 12) ty27 rfl rfl rfl (fun b12 => ?_)
    refine st_store_all 12 ty27 rfl rfl rfl rfl (Rt.rootC_len _ _ (by omega)) (Rt.rootC_one _ _ hx24.2.1) rfl rfl ?_
    refine op_nil ?_
    refine ax_then ?_
    refine At.regs (L' := [(3, _), (8, _), (9, _), (10, _), (11, _), (12, _)]) (.cons rfl (.cons rfl (.cons rfl (.cons rfl (.cons rfl (.cons rfl (.nil _))))))) ?_
    refine cd_seq ?_
    refine cd_seq ?_
    refine cd_region ?_
    refine st (ev_fieldAddr (b := _) Try.underlying117 (f := _) rfl ty107 (by decide) rfl) rfl rfl rfl ?_
    refine st (ld_blk1 (h := 10) ty107 rfl rfl rfl rfl) rfl rfl rfl ?_
    refine st_callv has52 rfl (fun w1 sw => rwhole_any b14 v bd rc w1 (lies_blk (sw.blk_eq (h := 14) rfl)) (hx24.2.2.1.rd _ (sw.sl_rd (h := 21) rfl))) rfl rfl ?_
    refine at_eq (i := 27) (v' := .bool (decide (bd = false ∧ rc.length = 0))) rfl (by cases bd <;> simp) ?_
    refine st (ev_not_if rfl) rfl rfl rfl ?_
    refine st (ev_move rfl) rfl rfl rfl ?_
    refine at_split_if (i := 29) rfl (fun hg29 => ?_) (fun hg29 => ?_)
    ·
      refine st_skip rfl rfl rfl ?_
      refine st_skip rfl rfl rfl ?_
      refine st_skip rfl rfl rfl ?_
      refine st_skip rfl rfl rfl ?_
      refine st (ev_pick_t rfl rfl) rfl rfl rfl ?_
      refine op_nil ?_
      refine ax_then ?_
      refine At.regs (L' := [(8, _), (9, _), (11, _), (12, _), (34, _)]) (.cons rfl (.cons rfl (.cons rfl (.cons rfl (.cons rfl (.nil _)))))) ?_
      refine cd_true rfl ?_
      refine cd_seq ?_
      refine cd_region ?_
      refine st (ld_blk_all (h := 11) ty27 rfl rfl rfl rfl) rfl rfl rfl ?_
      refine st_store_all 8 ty27 rfl rfl rfl rfl (by first | omega | (simp only [List.length_append, List.length_cons, List.length_nil, List.length_set, List.length_replicate, List.length_take, List.length_drop, ints_length, wr_length, sha_len, node_len, recov_len, Ky.named_len, Ky.keyPub_len, Ky.hashOf_len] <;> omega) | rfl) (by first | (intro u hu; simp at hu; rcases hu with rfl | rfl <;> rfl) | (simp [Value.oneCell'])) (by first | omega | (simp only [List.length_append, List.length_cons, List.length_nil, List.length_set, List.length_replicate, List.length_take, List.length_drop, ints_length, wr_length, sha_len, node_len, recov_len, Ky.named_len, Ky.keyPub_len, Ky.hashOf_len] <;> omega) | rfl) rfl ?_
      refine st (ev_assign rfl) rfl rfl rfl ?_
      refine op_nil ?_
      refine ax_then ?_
      refine At.regs (L' := [(8, _), (9, _), (12, _)]) (.cons rfl (.cons rfl (.cons rfl (.nil _)))) ?_
      refine cd_ret ?_
      refine ax_then_ret ?_
      refine rt_cell_tmp (h0 := 8) (.inl rfl) Try.results55 ty27 rfl rfl rfl (by first | omega | (simp only [List.length_append, List.length_cons, List.length_nil, List.length_set, List.length_replicate, List.length_take, List.length_drop, ints_length, wr_length, sha_len, node_len, recov_len, Ky.named_len, Ky.keyPub_len, Ky.hashOf_len] <;> omega) | rfl) rfl ?_
      exact fun w1 sw => ⟨Rt.zeros, ⟨rfl, by rw [Rt.dec_prog_no hrr (fun hh => hg29 hh.2.1)]; rfl, Rt.zeros_one⟩, by rw [Rt.dec_prog_no hrr (fun hh => hg29 hh.2.1)]; rfl, sw.gives (.nil _), Rt.zeros_rd, fun h e hh => (lk_nil hh).elim⟩
    ·
      refine st (ev_move rfl) rfl rfl rfl ?_
      refine st (ld_blk_all (h := 12) ty27 rfl rfl rfl (Rt.rootC_len _ _ (by omega))) rfl rfl rfl ?_
      refine st_callv_fn has57 rfl rfl rfl (fun w1 sw => wisroot_any (Rr.nVal (Rr.nRest body)) (Rr.nVal (Rr.nRest (Rr.nRest body))) l w1 hl4 hx24.2.1 hrr.h32 (fun k hk => by have := hrr.lens k hk; omega) (fun y hy => sw.rd 200 _ rfl y hy)) rfl rfl ?_
      refine st (ev_not_if rfl) rfl rfl rfl ?_
      refine st (ev_pick_f rfl rfl) rfl rfl rfl ?_
      refine op_nil ?_
      refine ax_then ?_
      refine At.regs (L' := [(8, _), (9, _), (11, _), (12, _), (34, _)]) (.cons rfl (.cons rfl (.cons rfl (.cons rfl (.cons rfl (.nil _)))))) ?_
      refine cd_if rfl (fun hc34 => ?_) (fun hc34 => ?_)
      ·
        refine cd_seq ?_
        refine cd_region ?_
        refine st (ld_blk_all (h := 11) ty27 rfl rfl rfl rfl) rfl rfl rfl ?_
        refine st_store_all 8 ty27 rfl rfl rfl rfl (by first | omega | (simp only [List.length_append, List.length_cons, List.length_nil, List.length_set, List.length_replicate, List.length_take, List.length_drop, ints_length, wr_length, sha_len, node_len, recov_len, Ky.named_len, Ky.keyPub_len, Ky.hashOf_len] <;> omega) | rfl) (by first | (intro u hu; simp at hu; rcases hu with rfl | rfl <;> rfl) | (simp [Value.oneCell'])) (by first | omega | (simp only [List.length_append, List.length_cons, List.length_nil, List.length_set, List.length_replicate, List.length_take, List.length_drop, ints_length, wr_length, sha_len, node_len, recov_len, Ky.named_len, Ky.keyPub_len, Ky.hashOf_len] <;> omega) | rfl) rfl ?_
        refine st (ev_assign rfl) rfl rfl rfl ?_
        refine op_nil ?_
        refine ax_then ?_
        refine At.regs (L' := [(8, _), (9, _), (12, _)]) (.cons rfl (.cons rfl (.cons rfl (.nil _)))) ?_
        refine cd_ret ?_
        refine ax_then_ret ?_
        refine rt_cell_tmp (h0 := 8) (.inl rfl) Try.results55 ty27 rfl rfl rfl (by first | omega | (simp only [List.length_append, List.length_cons, List.length_nil, List.length_set, List.length_replicate, List.length_take, List.length_drop, ints_length, wr_length, sha_len, node_len, recov_len, Ky.named_len, Ky.keyPub_len, Ky.hashOf_len] <;> omega) | rfl) rfl ?_
        exact fun w1 sw => ⟨Rt.zeros, ⟨rfl, by rw [Rt.dec_prog_no hrr (fun hh => hc34 hh.2.2)]; rfl, Rt.zeros_one⟩, by rw [Rt.dec_prog_no hrr (fun hh => hc34 hh.2.2)]; rfl, sw.gives (.nil _), Rt.zeros_rd, fun h e hh => (lk_nil hh).elim⟩
      ·
        refine cd_skip ?_
        refine ax_then ?_
        refine At.regs (L' := [(8, _), (9, _), (12, _)]) (.cons rfl (.cons rfl (.cons rfl (.nil _)))) ?_
        refine cd_seq ?_
        refine cd_region ?_
        refine st (ld_blk_all (h := 12) ty27 rfl rfl rfl (Rt.rootC_len _ _ (by omega))) rfl rfl rfl ?_
        refine st_store_all 8 ty27 rfl rfl rfl rfl (Rt.rootC_len _ _ (by omega)) (Rt.rootC_one _ _ hx24.2.1) rfl rfl ?_
        refine st (ev_assign rfl) rfl rfl rfl ?_
        refine op_nil ?_
        refine ax_then ?_
        refine At.regs (L' := [(8, _), (9, _)]) (.cons rfl (.cons rfl (.nil _))) ?_
        refine cd_ret ?_
        have hd := Rt.dec_prog hB hx24.2.2.2 (Classical.not_not.1 hc20) (Classical.not_not.1 hg29) (Classical.not_not.1 hc34)
        refine rt_cell_tmp (h0 := 8) (.inl rfl) Try.results55 ty27 rfl rfl rfl (Rt.rootC_len _ _ (by omega)) rfl ?_
        exact fun w1 sw => ⟨l, ⟨hl4, by rw [hd], hx24.2.1⟩, by rw [hd], sw.gives (.nil _), (fun y hy => ⟨sw.rd 200 _ rfl y hy, hf24 y hy⟩), fun h e hh => (lk_nil hh).elim⟩
set_option maxRecDepth 20000 in
set_option maxHeartbeats 4000000 in
theorem wdecode_any (pb : Value) (body : List Int) (w : World) (hbl : body.length ≤ 140737488351232) (hB : Byt body) (hbody : Rd w pb 1 (ints .u8 body)) : Calls Try.prog 31 #[pb] w (PostR (ι := List Rt.Rol) w (fun l => l.length = 4 ∧ Rt.kds l = (Rt.dec body).1.roles ∧ ∀ x, x ∈ l → x.1.oneCell' = true) (fun l => .tuple #[.agg (List.toArray (Rt.rootC (Rt.dec body).1.ver (Rt.dec body).1.exp l)), .int .i64 (Rt.dec body).2]) (fun _ => []) (fun l => Rt.rowsR l)) := by
  refine calls_at (vs := [pb]) (X := []) (H := []) (F := [(22, .sl (pb) 1 (ints .u8 (body)))]) 8 Try.func31 rfl rfl rfl (Sat.rd0 22 hbody) ?_
  refine cd_seq ?_
  refine cd_region ?_
  refine st_alloc (h := 2) ty27 rfl rfl rfl (fun b2 => ?_)
  refine st (ev_assign rfl) rfl rfl rfl ?_
  refine op_nil ?_
  refine ax_then ?_
  refine At.regs (L' := [(0, _), (2, _), (3, _)]) (.cons rfl (.cons rfl (.cons rfl (.nil _)))) ?_
  refine cd_seq ?_
  refine cd_region ?_
  refine st (ev_move rfl) rfl rfl rfl ?_
  refine st_callR 200 has55 rfl (fun w1 sw => wdecoded_any pb body w1 hbl hB (sw.sl_rd (h := 22) rfl)) rfl rfl (fun l hx hf => ?_)
  refine st (ev_extract rfl rfl) rfl rfl rfl ?_
  refine st (ev_extract rfl rfl) rfl rfl rfl ?_
  refine st_store_all 2 ty27 rfl rfl rfl rfl (Rt.rootC_len _ _ (by have := hx.1; omega)) (Rt.rootC_one _ _ hx.2.2) rfl rfl ?_
  refine st (ev_assign rfl) rfl rfl rfl ?_
  refine op_nil ?_
  refine ax_then ?_
  refine At.regs (L' := [(2, _), (3, _)]) (.cons rfl (.cons rfl (.nil _))) ?_
  refine cd_ret ?_
  refine rt_cell_tmp (h0 := 2) (.inl rfl) Try.results31 ty27 rfl rfl rfl (Rt.rootC_len _ _ (by have := hx.1; omega)) rfl ?_
  exact fun w1 sw => ⟨l, hx, rfl, sw.gives (.nil _), (fun y hy => ⟨sw.rd 200 _ rfl y hy, hf y hy⟩), fun h e hh => (lk_nil hh).elim⟩
end Go.Proofs.Ytgfnmolbagilmaa

namespace Go.Proofs.Ytgfnmolbagilmaa
open Go Go.RowKit Fw
open Sha
open Ots
open Mk
set_option linter.unusedVariables false
set_option linter.unusedSimpArgs false
set_option maxRecDepth 20000 in
set_option maxHeartbeats 2000000 in
theorem qreader_any (pb : Value) (body : List Int) (w : World) (hbl : body.length ≤ 140737488351232) (hB : Byt body) (hbody : Rd w pb 1 (ints .u8 body)) : Calls Try.prog 60 #[pb, .int .i64 1] w (Post (ι := Nat × Value) w [] (fun x => Rr.Und pb body x.2 (Rt.KQ body)) (fun x => .pointer (some ⟨x.1, 0, none⟩)) (fun x => [(0, .blk (x.1) (.cells ([x.2, .bool (Rt.BQ body)]).toArray 112))])) := by
  have hsb := rd_shape hbody
  refine calls_at (vs := [pb, .int .i64 1]) (X := []) (H := []) (F := [(22, .sl (pb) 1 (ints .u8 (body)))]) 16 Try.func60 rfl rfl rfl (Sat.rd0 22 hbody) ?_
  refine cd_seq ?_
  refine cd_region ?_
  refine st (ev_assign rfl) rfl rfl rfl ?_
  refine op_nil ?_
  refine ax_then ?_
  refine At.regs (L' := [(0, _), (1, _), (4, _)]) (.cons rfl (.cons rfl (.cons rfl (.nil _)))) ?_
  refine cd_seq ?_
  refine cd_region ?_
  refine st (ev_move rfl) rfl rfl rfl ?_
  refine st (ev_build_struct ty112 rfl pl112 rfl ((fill_put (i := 0) (off := 0) (n := 1) (vs := [pb]) rfl hsb.1 rfl (Nat.le_of_ble_eq_true rfl)).trans fill_nil)) rfl rfl rfl ?_
  refine at_eq (i := 7) (v' := .agg (List.toArray [pb, .bool false])) rfl rfl ?_
  refine st_box (h := 8) rfl rfl rfl rfl (fun b8 => ?_)
  refine st (ev_assign rfl) rfl rfl rfl ?_
  refine op_nil ?_
  refine ax_then ?_
  refine At.regs (L' := [(1, _), (4, _), (5, _)]) (.cons rfl (.cons rfl (.cons rfl (.nil _)))) ?_
  refine cd_seq ?_
  refine cd_seq ?_
  refine cd_region ?_
  refine st (ev_move rfl) rfl rfl rfl ?_
  refine st_call has53 rfl (fun w1 sw => rn 8 (qrnum_g b8 pb false body w1 (sw.blk_eq (h := 8) rfl) (sw.sl_rd (h := 22) rfl) (sw.off 22 _ 8 _ rfl rfl _ (by simp [Ent.ids])) (by omega) (fun hh => by cases hh) hB)) (mod_blk rfl) rfl rfl (fun x10 hx10 => ?_)
  refine st (ev_move rfl) rfl rfl rfl ?_
  refine st (ev_neq rfl rfl) rfl rfl rfl ?_
  refine op_nil ?_
  refine ax_then ?_
  refine At.regs (L' := [(4, _), (5, _), (12, _)]) (.cons rfl (.cons rfl (.cons rfl (.nil _)))) ?_
  refine cd_if rfl (fun hc12 => ?_) (fun hc12 => ?_)
  ·
    refine cd_region ?_
    refine st (ev_move rfl) rfl rfl rfl ?_
    refine st_call has84 rfl (fun w1 sw => rn 8 (qbad_any b8 _ _ w1 (sw.blk_eq (h := 8) rfl))) (mod_blk rfl) rfl rfl (fun _ _ => ?_)
    refine op_nil ?_
    refine ax_then ?_
    refine At.regs (L' := [(4, _), (5, _)]) (.cons rfl (.cons rfl (.nil _))) ?_
    refine cd_seq ?_
    refine cd_region ?_
    refine st (ev_move rfl) rfl rfl rfl ?_
    refine st (ev_assign rfl) rfl rfl rfl ?_
    refine op_nil ?_
    refine ax_then ?_
    refine At.regs (L' := [(4, _)]) (.cons rfl (.nil _)) ?_
    refine cd_ret ?_
    refine rt_tmp (.inl rfl) Try.results60 rfl ?_
    exact fun w1 sw => ⟨(b8, Ky.nil0), by rw [Rt.KQ, if_neg hc12]; exact Rr.Und.none pb body, rfl, by rw [Rt.BQ, if_neg hc12]; exact (sw.gives (N := [(8, _)]) (.cons rfl (.nil _))).rn 0⟩
  ·
    refine cd_skip ?_
    refine ax_then ?_
    refine At.regs (L' := [(4, _), (5, _)]) (.cons rfl (.cons rfl (.nil _))) ?_
    refine cd_seq ?_
    refine cd_region ?_
    refine st (ev_move rfl) rfl rfl rfl ?_
    refine st (ev_assign rfl) rfl rfl rfl ?_
    refine op_nil ?_
    refine ax_then ?_
    refine At.regs (L' := [(4, _)]) (.cons rfl (.nil _)) ?_
    refine cd_ret ?_
    refine rt_tmp (.inl rfl) Try.results60 rfl ?_
    exact fun w1 sw => ⟨(b8, x10), by rw [Rt.KQ, if_pos (Classical.not_not.1 hc12)]; exact hx10, rfl, by rw [Rt.BQ, if_pos (Classical.not_not.1 hc12)]; exact (sw.gives (N := [(8, _)]) (.cons rfl (.nil _))).rn 0⟩
set_option maxRecDepth 20000 in
set_option maxHeartbeats 2000000 in
theorem qjust_any (b : Nat) (rv pb q : Value) (bad : Bool) (r body c : List Int) (e : Int) (w : World) (h : Lies w b 0 [rv, .bool bad]) (h' : Rd w rv 1 (ints .u8 r)) (hb : Rd w pb 1 (ints .u8 body)) (hc : Rd w q 1 (ints .u8 c)) (hB : Byt body) (hC : Byt c) : Calls Try.prog 62 #[.pointer (some ⟨b, 0, none⟩), pb, q, .int .i64 e] w (PostV w (.bool (decide (Rt.justQ bad r body c e)))) := by
  refine calls_at (vs := [.pointer (some ⟨b, 0, none⟩), pb, q, .int .i64 e]) (X := []) (H := []) (F := [(21, .mem b 0 [rv, .bool bad]), (23, .sl (q) 1 (ints .u8 (c))), (22, .sl (pb) 1 (ints .u8 (body))), (20, .sl (rv) 1 (ints .u8 (r)))]) 22 Try.func62 rfl rfl rfl ((((Sat.rd0 20 h').more 22 hb).more 23 hc).read (f := .mem b 0 [rv, .bool bad]) 21 h off_nil) ?_
  refine cd_seq ?_
  refine cd_region ?_
  refine st (ev_assign rfl) rfl rfl rfl ?_
  refine op_nil ?_
  refine ax_then ?_
  refine At.regs (L' := [(0, _), (1, _), (2, _), (3, _), (8, _)]) (.cons rfl (.cons rfl (.cons rfl (.cons rfl (.cons rfl (.nil _)))))) ?_
  refine cd_seq ?_
  refine cd_region ?_
  refine st (ev_move rfl) rfl rfl rfl ?_
  refine st_callv has54 rfl (fun w1 sw => qwhole_any b rv bad r w1 (sw.mem_lies (h := 21) rfl) (sw.sl_rd (h := 20) rfl)) rfl rfl ?_
  refine at_eq (i := 10) (v' := .bool (decide (bad = false ∧ r.length = 0))) rfl (by cases bad <;> simp) ?_
  refine st (ev_move rfl) rfl rfl rfl ?_
  refine at_split_if (i := 11) rfl (fun hg11 => ?_) (fun hg11 => ?_)
  ·
    refine st (ev_move rfl) rfl rfl rfl ?_
    refine st (ev_eql rfl rfl) rfl rfl rfl ?_
    refine st (ev_pick_t rfl rfl) rfl rfl rfl ?_
    refine st (ev_move rfl) rfl rfl rfl ?_
    refine at_split_if (i := 15) rfl (fun hg15 => ?_) (fun hg15 => ?_)
    ·
      refine st (ev_move rfl) rfl rfl rfl ?_
      refine st (ev_string Try.underlying28 Try.underlying5 Try.underlying9 rfl (fun w1 sw => sw.sl_rd (h := 22) rfl)) rfl rfl rfl ?_
      refine st (ev_move rfl) rfl rfl rfl ?_
      refine st (ev_string Try.underlying28 Try.underlying5 Try.underlying9 rfl (fun w1 sw => sw.sl_rd (h := 23) rfl)) rfl rfl rfl ?_
      refine st (ev_eql_strb rfl rfl hB hC) rfl rfl rfl ?_
      refine st (ev_pick_t rfl rfl) rfl rfl rfl ?_
      refine st (ev_assign rfl) rfl rfl rfl ?_
      refine op_nil ?_
      refine ax_then ?_
      refine At.regs (L' := [(8, _)]) (.cons rfl (.nil _)) ?_
      refine cd_ret ?_
      refine rt_tmp (.inl rfl) Try.results62 rfl ?_
      exact fun w1 sw => ⟨congrArg (fun b => Ending.returned (Value.bool b)) (by exact decide_eq_decide.2 ⟨fun hh => ⟨hg11, hg15, hh⟩, fun hh => hh.2.2⟩), sw.gives (.nil _)⟩
    ·
      refine st_skip rfl rfl rfl ?_
      refine st_skip rfl rfl rfl ?_
      refine st_skip rfl rfl rfl ?_
      refine st_skip rfl rfl rfl ?_
      refine st_skip rfl rfl rfl ?_
      refine st (ev_pick_f rfl rfl) rfl rfl rfl ?_
      refine st (ev_assign rfl) rfl rfl rfl ?_
      refine op_nil ?_
      refine ax_then ?_
      refine At.regs (L' := [(8, _)]) (.cons rfl (.nil _)) ?_
      refine cd_ret ?_
      refine rt_tmp (.inl rfl) Try.results62 rfl ?_
      exact fun w1 sw => ⟨congrArg (fun b => Ending.returned (Value.bool b)) (by exact (decide_eq_false (fun hh => hg15 hh.2.1)).symm), sw.gives (.nil _)⟩
  ·
    refine st_skip rfl rfl rfl ?_
    refine st_skip rfl rfl rfl ?_
    refine st (ev_pick_f rfl rfl) rfl rfl rfl ?_
    refine st (ev_move rfl) rfl rfl rfl ?_
    refine st_skip rfl rfl rfl ?_
    refine st_skip rfl rfl rfl ?_
    refine st_skip rfl rfl rfl ?_
    refine st_skip rfl rfl rfl ?_
    refine st_skip rfl rfl rfl ?_
    refine st (ev_pick_f rfl rfl) rfl rfl rfl ?_
    refine st (ev_assign rfl) rfl rfl rfl ?_
    refine op_nil ?_
    refine ax_then ?_
    refine At.regs (L' := [(8, _)]) (.cons rfl (.nil _)) ?_
    refine cd_ret ?_
    refine rt_tmp (.inl rfl) Try.results62 rfl ?_
    exact fun w1 sw => ⟨congrArg (fun b => Ending.returned (Value.bool b)) (by exact (decide_eq_false (fun hh => hg11 hh.1)).symm), sw.gives (.nil _)⟩
theorem qencG_any (ver exp : Int) (l : List Rt.Rol) (w : World) (hl : l.length = 4) (hu : ∀ k, k ∈ Rt.kds l → H32 k.ks) (hkl : ∀ k, k ∈ Rt.kds l → k.ks.length ≤ 1000000000) (h : ∀ y, y ∈ Rt.rowsR l → Rd w y.1 y.2.1 y.2.2) : Calls Try.prog 39 #[.agg (List.toArray (Rt.rootC ver exp l))] w (Post (ι := Value) w [] (fun _ => True) (fun v => .tuple #[v, .int .i64 (Rt.eErr (⟨ver, exp, Rt.kds l⟩ : Rt.RT))]) (fun v => [(0, .own (v) 5 1 (ints .u8 (Rt.eOut (⟨ver, exp, Rt.kds l⟩ : Rt.RT))))])) := by
  by_cases hn : Rt.isRt (⟨ver, exp, Rt.kds l⟩ : Rt.RT)
  · refine (qencroot_ok ver exp l w hl hu hkl h hn).mono ?_
    rintro e w' ⟨x, _, rfl, g⟩
    refine ⟨x, trivial, ?_, ?_⟩
    · simp only [Rt.eErr, if_pos hn]
    · simp only [Rt.eOut, if_pos hn]
      exact g
  · refine (qencroot_no ver exp l w hl hu hkl h hn).mono ?_
    rintro e w' ⟨rfl, g⟩
    refine ⟨.slice none 0 0, trivial, ?_, ?_⟩
    · simp only [Rt.eErr, if_neg hn]
    · simp only [Rt.eOut, if_neg hn]
      exact g.nil1
set_option maxRecDepth 20000 in
set_option maxHeartbeats 8000000 in
theorem qdecroot_any (pb : Value) (body : List Int) (w : World) (hbl : body.length ≤ 140737488351232) (hB : Byt body) (hbody : Rd w pb 1 (ints .u8 body)) : Calls Try.prog 33 #[pb] w (PostR (ι := List Rt.Rol) w (fun l => l.length = 4 ∧ Rt.kds l = (Rt.dec body).1.roles ∧ ∀ x, x ∈ l → x.1.oneCell' = true) (fun l => .tuple #[.agg (List.toArray (Rt.rootC (Rt.dec body).1.ver (Rt.dec body).1.exp l)), .int .i64 (Rt.dec body).2]) (fun _ => []) (fun l => Rt.rowsR l)) := by
  have hkq := Rt.KQ_len body
  have hl1 := Rr.nRest_len (Rt.KQ body)
  have hl2 := Rr.nRest_len (Rr.nRest (Rt.KQ body))
  refine calls_at (vs := [pb]) (X := []) (H := []) (F := [(22, .sl (pb) 1 (ints .u8 (body)))]) 39 Try.func33 rfl rfl rfl (Sat.rd0 22 hbody) ?_
  refine cd_seq ?_
  refine cd_region ?_
  refine st_alloc (h := 2) ty27 rfl rfl rfl (fun b2 => ?_)
  refine st (ev_assign rfl) rfl rfl rfl ?_
  refine op_nil ?_
  refine ax_then ?_
  refine At.regs (L' := [(0, _), (2, _), (3, _)]) (.cons rfl (.cons rfl (.cons rfl (.nil _)))) ?_
  refine cd_seq ?_
  refine cd_region ?_
  refine st (ev_move rfl) rfl rfl rfl ?_
  refine st_call has60 rfl (fun w1 sw => rn 10 (qreader_any pb body w1 hbl hB (sw.sl_rd (h := 22) rfl))) nil_all rfl rfl (fun x10 hx10 => ?_)
  obtain ⟨b10, v10⟩ := x10
  dsimp only at hx10 ⊢
  refine at_fmap (h := 22) 21 rfl (fun w1 hh => hx10.rd w1 hh) hx10.blk hx10.nil ?_
  refine st (ev_assign rfl) rfl rfl rfl ?_
  refine op_nil ?_
  refine ax_then ?_
  refine At.regs (L' := [(0, _), (2, _), (3, _), (4, _)]) (.cons rfl (.cons rfl (.cons rfl (.cons rfl (.nil _))))) ?_
  refine cd_seq ?_
  refine cd_region ?_
  refine st (ev_move rfl) rfl rfl rfl ?_
  refine st_call has53 rfl (fun w1 sw => rn 10 (qrnum_g b10 v10 ((Rt.BQ body)) (Rt.KQ body) w1 (sw.blk_eq (h := 10) rfl) (sw.sl_rd (h := 21) rfl) (sw.off 21 _ 10 _ rfl rfl _ (by simp [Ent.ids])) (by omega) (fun hh => Rt.BQ_nil hh) (hx10.byt hB))) (mod_blk rfl) rfl rfl (fun x12 hx12 => ?_)
  refine at_fmap (h := 21) 21 rfl (fun w1 hh => hx12.rd w1 hh) hx12.blk hx12.nil ?_
  refine st (ev_build_struct ty27 rfl pl27 rfl ((fill_put (i := 0) (off := 0) (n := 1) (vs := [.int .i64 (Rr.nVal (Rt.KQ body))]) rfl rfl rfl (Nat.le_of_ble_eq_true rfl)).trans ((fill_put (i := 1) (off := 1) (n := 1) (vs := [.int .i64 0]) rfl rfl rfl (Nat.le_of_ble_eq_true rfl)).trans fill_nil))) rfl rfl rfl ?_
  refine at_eq (i := 13) (v' := .agg (List.toArray (Rt.rootC (Rr.nVal (Rt.KQ body)) 0 []))) rfl rfl ?_
  refine st_alloc (h := 5) ty27 rfl rfl rfl (fun b5 => ?_)
  refine st_store_all 5 ty27 rfl rfl rfl rfl rfl (Rt.rootC_one _ _ (fun x hx => by cases hx)) rfl rfl ?_
  refine op_nil ?_
  refine ax_then ?_
  refine At.regs (L' := [(0, _), (2, _), (3, _), (4, _), (5, _)]) (.cons rfl (.cons rfl (.cons rfl (.cons rfl (.cons rfl (.nil _)))))) ?_
  refine cd_seq ?_
  refine cd_region ?_
  refine st (ev_move rfl) rfl rfl rfl ?_
  refine st_call has53 rfl (fun w1 sw => rn 10 (qrnum_g b10 x12 ((Rt.BQ body) || Rr.nBad (Rt.KQ body)) (Rr.nRest (Rt.KQ body)) w1 (sw.blk_eq (h := 10) rfl) (sw.sl_rd (h := 21) rfl) (sw.off 21 _ 10 _ rfl rfl _ (by simp [Ent.ids])) (by omega) (fun hh => Rt.nRest_bad (fun hh2 => Rt.BQ_nil hh2) hh) ((hx10.trans hx12).byt hB))) (mod_blk rfl) rfl rfl (fun x15 hx15 => ?_)
  refine at_fmap (h := 21) 21 rfl (fun w1 hh => hx15.rd w1 hh) hx15.blk hx15.nil ?_
  refine st (ev_fieldAddr (b := _) Try.underlying27 (f := _) rfl ty3 (by decide) rfl) rfl rfl rfl ?_
  refine st_store1 5 ty3 rfl rfl rfl rfl (show 1 < 10 from by decide) rfl ?_
  refine at_heq (i := 5) (v' := .blk (b5) (.cells (Rt.rootC (Rr.nVal (Rt.KQ body)) (Rr.nVal (Rr.nRest (Rt.KQ body))) []).toArray 27)) rfl rfl ?_
  refine op_nil ?_
  refine ax_then ?_
  refine At.regs (L' := [(0, _), (2, _), (3, _), (4, _), (5, _)]) (.cons rfl (.cons rfl (.cons rfl (.cons rfl (.cons rfl (.nil _)))))) ?_
  refine cd_seq ?_
  refine cd_seq ?_
  refine cd_region ?_
  refine st (ev_assign rfl) rfl rfl rfl ?_
  refine op_nil ?_
  refine ax_then ?_
  refine At.regs (L' := [(0, _), (2, _), (3, _), (4, _), (5, _), (6, _)]) (.cons rfl (.cons rfl (.cons rfl (.cons rfl (.cons rfl (.cons rfl (.nil _))))))) ?_
  refine cd_block ?_
  refine at_rows_nil 200 ?_
  refine cd_loop (ι := List Rt.Rol × Bool × List Int × Value) (fun x => x.1.length ≤ 4 ∧ Rr.Und pb body x.2.2.2 x.2.2.1 ∧ Rt.RLoop true ((Rt.BQ body) || Rr.nBad (Rt.KQ body) || Rr.nBad (Rr.nRest (Rt.KQ body))) (Rr.nRest (Rr.nRest (Rt.KQ body))) (Rt.kds x.1) x.2.1 x.2.2.1 ∧ (∀ y, y ∈ Rt.rowsR x.1 → ∀ b', b' ∈ blkOf y.1 → w.heap.size ≤ b') ∧ ∀ y, y ∈ x.1 → y.1.oneCell' = true) (fun x => 4 - x.1.length)
      (fun x => [(0, pb), (2, .pointer (some ⟨b2, 0, none⟩)), (4, .pointer (some ⟨b10, 0, none⟩)), (5, .pointer (some ⟨b5, 0, none⟩)), (6, .int .i64 (x.1.length : Nat))])
      (fun x => [(2, .blk (b2) (.cells ([.int .i64 0, .int .i64 0, .slice none 0 0, .int .i64 0, .slice none 0 0, .int .i64 0, .slice none 0 0, .int .i64 0, .slice none 0 0, .int .i64 0]).toArray 27)), (5, .blk (b5) (.cells (Rt.rootC (Rr.nVal (Rt.KQ body)) (Rr.nVal (Rr.nRest (Rt.KQ body))) x.1).toArray 27)), (10, .blk (b10) (.cells ([x.2.2.2, .bool (x.2.1)]).toArray 112))])
      (fun x => [(21, .sl x.2.2.2 1 (ints .u8 x.2.2.1)), (22, .sl (pb) 1 (ints .u8 (body))), (200, .rows (Rt.rowsR x.1))])
      ([], ((Rt.BQ body) || Rr.nBad (Rt.KQ body) || Rr.nBad (Rr.nRest (Rt.KQ body))), (Rr.nRest (Rr.nRest (Rt.KQ body))), x15) (⟨Nat.zero_le _, (hx10.trans hx12).trans hx15, Rt.RLoop.init _ _ _, (fun y hy => by cases hy), (fun y hy => by cases hy)⟩) (.cons rfl (.cons rfl (.cons rfl (.cons rfl (.cons rfl (.nil _)))))) (.cons rfl (.cons rfl (.cons rfl (.nil _)))) (.cons rfl (.cons rfl (.cons rfl (.nil _)))) (fun x hi => ?_)
  obtain ⟨l, bd, rc, v⟩ := x
  dsimp only at hi ⊢
  have hi1 := hi.1
  have hul := hi.2.1.len
  have hlo := hi.2.2.1
  refine cd_seq ?_
  refine cd_seq ?_
  refine cd_region ?_
  refine st (ev_move rfl) rfl rfl rfl ?_
  refine st (ev_lss rfl rfl) rfl rfl rfl ?_
  refine op_nil ?_
  refine ax_then ?_
  refine At.regs (L' := [(0, _), (2, _), (4, _), (5, _), (6, _), (17, _), (18, _)]) (.cons rfl (.cons rfl (.cons rfl (.cons rfl (.cons rfl (.cons rfl (.cons rfl (.nil _)))))))) ?_
  refine cd_if rfl (fun hc18 => ?_) (fun hc18 => ?_)
  ·
    have hlt : l.length < 4 := by omega
    refine cd_skip ?_
    refine ax_then ?_
    refine At.regs (L' := [(0, _), (2, _), (4, _), (5, _), (6, _), (17, _), (18, _)]) (.cons rfl (.cons rfl (.cons rfl (.cons rfl (.cons rfl (.cons rfl (.cons rfl (.nil _)))))))) ?_
    refine cd_seq ?_
    refine cd_block ?_
    refine cd_region ?_
    refine st (ev_move rfl) rfl rfl rfl ?_
    refine st (ev_move rfl) rfl rfl rfl ?_
    refine st_call has61 rfl (fun w1 sw => rn2 10 123 (qreadkeys_any b10 v bd rc w1 (sw.blk_eq (h := 10) rfl) (sw.sl_rd (h := 21) rfl) (sw.off 21 _ 10 _ rfl rfl _ (by simp [Ent.ids])) (by omega) (fun hh => hlo.rest (fun hh2 => Rt.nRest_bad (fun hh3 => Rt.nRest_bad (fun hh4 => Rt.BQ_nil hh4) hh3) hh2) hh) (hi.2.1.byt hB))) (mod_blk2 rfl) rfl rfl (fun x23 hx23 => ?_)
    obtain ⟨bd2, rc2, v2, kd, u⟩ := x23
    dsimp only at hx23 ⊢
    refine at_fmap (h := 21) 21 rfl (fun w1 hh => hx23.1.rd w1 hh) hx23.1.blk hx23.1.nil ?_
    refine at_own_shape (h := 123) rfl (fun hs123 => ?_)
    refine st (ev_fieldAddr (b := _) Try.underlying27 (f := _) rfl ty25 (by decide) rfl) rfl rfl rfl ?_
    refine st (ev_indexAddr_arr Try.underlying25 ty24 rfl rfl (by omega) (by omega)) rfl rfl rfl ?_
    refine st_store 5 ty24 rfl rfl rfl rfl rfl (by intro u0 hu0; simp at hu0; rcases hu0 with rfl | rfl; exact hs123.2; rfl) (by rw [Rt.rootC_len _ _ (by omega), Int.toNat_natCast]; show 0 + 2 + l.length * 2 + 2 ≤ 10; omega) rfl ?_
    refine at_heq (i := 5) (v' := .blk (b5) (.cells (Rt.rootC (Rr.nVal (Rt.KQ body)) (Rr.nVal (Rr.nRest (Rt.KQ body))) (l ++ [(u, kd)])).toArray 27)) rfl (by rw [← Rt.rootC_set _ _ (by omega) (u, kd), Int.toNat_natCast]; rfl) ?_
    refine op_nil ?_
    refine ax_block ?_
    refine ax_then ?_
    refine At.regs (L' := [(0, _), (2, _), (4, _), (5, _), (6, _), (17, _), (18, _), (21, _), (22, _), (23, _), (24, _), (25, _)]) (.cons rfl (.cons rfl (.cons rfl (.cons rfl (.cons rfl (.cons rfl (.cons rfl (.cons rfl (.cons rfl (.cons rfl (.cons rfl (.cons rfl (.nil _))))))))))))) ?_
    refine at_rows_own (h := 123) (i := 200) (H' := [(2, _), (5, _), (10, _)]) rfl rfl (.cons rfl (.cons rfl (.cons rfl (.nil _)))) rfl (fun b' hb' => by cases hb') (fun hf => ?_)
    refine cd_region ?_
    refine st (ev_move rfl) rfl rfl rfl ?_
    refine st (ev_add64 rfl rfl (by omega) (by omega)) rfl rfl rfl ?_
    refine st (ev_assign rfl) rfl rfl rfl ?_
    refine op_nil ?_
    refine ax_eq (i := 6) (v' := .int .i64 ((l ++ [(u, kd)]).length : Nat)) rfl (by rw [List.length_append]; rfl) ?_
    refine ax_rows (i := 200) (rs' := Rt.rowsR (l ++ [(u, kd)])) rfl (fun y hy => ((Rt.rowsR_snoc l (u, kd) y).1 hy).elim (fun e => e ▸ List.mem_cons_self ..) (fun h => List.mem_cons_of_mem _ h)) ?_
    exact at_again ((l ++ [(u, kd)], bd2, rc2, v2)) (⟨by show (l ++ [(u, kd)]).length ≤ 4; rw [List.length_append]; simp; omega, hi.2.1.trans hx23.1, by show Rt.RLoop true ((Rt.BQ body) || Rr.nBad (Rt.KQ body) || Rr.nBad (Rr.nRest (Rt.KQ body))) (Rr.nRest (Rr.nRest (Rt.KQ body))) (Rt.kds (l ++ [(u, kd)])) bd2 rc2; rw [Rt.kds_snoc]; exact hlo.step hx23.2, (fun y hy => by rcases (Rt.rowsR_snoc l (u, kd) y).1 hy with rfl | hy; exact hf; exact hi.2.2.2.1 y hy), (fun y hy => by rcases List.mem_append.1 hy with hy | hy; exact hi.2.2.2.2 y hy; rw [List.mem_singleton.1 hy]; exact hs123.2)⟩) (by show 4 - (l ++ [(u, kd)]).length < 4 - l.length; rw [List.length_append]; simp; omega) (.cons rfl (.cons rfl (.cons rfl (.cons rfl (.cons rfl (.nil _)))))) (.cons rfl (.cons rfl (.cons rfl (.nil _)))) (.cons rfl (.cons rfl (.cons rfl (.nil _))))
  ·
    have hl4 : l.length = 4 := by omega
    have hrr : Rt.RRel true (Rt.BQ body) (Rt.KQ body) (⟨(Rr.nVal (Rt.KQ body)), (Rr.nVal (Rr.nRest (Rt.KQ body))), Rt.kds l⟩ : Rt.RT) bd rc := Rt.rrel (hx10.byt hB) (by rw [Rt.kds_len]; exact hl4) hlo
    have houtB : Byt (Rt.eOut (⟨(Rr.nVal (Rt.KQ body)), (Rr.nVal (Rr.nRest (Rt.KQ body))), Rt.kds l⟩ : Rt.RT)) := Rt.eOut_byt (fun k hk => hrr.byt (Rt.KQ_byt hB) k hk)
    refine cd_exit ?_
    refine ax_then_exit ?_
    refine ax_then_exit ?_
    refine ax_block_hit ?_
    refine ax_then ?_
    refine At.regs (L' := [(0, _), (2, _), (4, _), (5, _)]) (.cons rfl (.cons rfl (.cons rfl (.cons rfl (.nil _))))) ?_
    refine cd_seq ?_
    refine cd_region ?_
    refine st (ld_blk_all (h := 5) ty27 rfl rfl rfl (Rt.rootC_len _ _ (by omega))) rfl rfl rfl ?_
    refine st_call has39 rfl (fun w1 sw => rn 28 (qencG_any (Rr.nVal (Rt.KQ body)) (Rr.nVal (Rr.nRest (Rt.KQ body))) l w1 hl4 hrr.h32 (fun k hk => by have := hrr.five rfl k hk; omega) (fun y hy => sw.rd 200 _ rfl y hy))) nil_all rfl rfl (fun v28 _ => ?_)
    refine st (ev_move rfl) rfl rfl rfl ?_
    refine st (ev_extract rfl rfl) rfl rfl rfl ?_
    refine st (ev_extract rfl rfl) rfl rfl rfl ?_
    refine st (ev_assign rfl) rfl rfl rfl ?_
    refine st (ev_assign rfl) rfl rfl rfl ?_
    refine op_nil ?_
    refine ax_then ?_
    refine At.regs (L' := [(0, _), (2, _), (4, _), (5, _), (7, _), (8, _)]) (.cons rfl (.cons rfl (.cons rfl (.cons rfl (.cons rfl (.cons rfl (.nil _))))))) ?_
    refine cd_seq ?_
    refine cd_seq ?_
    refine cd_region ?_
    refine st (ev_move rfl) rfl rfl rfl ?_
    refine st (ev_move rfl) rfl rfl rfl ?_
    refine st (ev_move rfl) rfl rfl rfl ?_
    refine st (ev_move rfl) rfl rfl rfl ?_
    refine st_callv has62 rfl (fun w1 sw => qjust_any b10 v pb v28 bd rc body (Rt.eOut (⟨(Rr.nVal (Rt.KQ body)), (Rr.nVal (Rr.nRest (Rt.KQ body))), Rt.kds l⟩ : Rt.RT)) (Rt.eErr (⟨(Rr.nVal (Rt.KQ body)), (Rr.nVal (Rr.nRest (Rt.KQ body))), Rt.kds l⟩ : Rt.RT)) w1 (lies_blk (sw.blk_eq (h := 10) rfl)) (sw.sl_rd (h := 21) rfl) (sw.sl_rd (h := 22) rfl) (sw.own_rd (h := 28) rfl) hB houtB) rfl rfl ?_
    refine st (ev_not_if rfl) rfl rfl rfl ?_
    refine op_nil ?_
    refine ax_then ?_
    refine At.regs (L' := [(2, _), (5, _), (36, _)]) (.cons rfl (.cons rfl (.cons rfl (.nil _)))) ?_
    refine cd_if rfl (fun hc36 => ?_) (fun hc36 => ?_)
    ·
      refine cd_seq ?_
      refine cd_region ?_
      refine st (ev_build_struct ty27 rfl pl27 rfl rfl) rfl rfl rfl ?_
      refine st_store_all 2 ty27 rfl rfl rfl rfl (by first | omega | (simp only [List.length_append, List.length_cons, List.length_nil, List.length_set, List.length_replicate, List.length_take, List.length_drop, ints_length, wr_length, sha_len, node_len, recov_len, Ky.named_len, Ky.keyPub_len, Ky.hashOf_len] <;> omega) | rfl) (by first | (intro u hu; simp at hu; rcases hu with rfl | rfl <;> rfl) | (simp [Value.oneCell'])) (by first | omega | (simp only [List.length_append, List.length_cons, List.length_nil, List.length_set, List.length_replicate, List.length_take, List.length_drop, ints_length, wr_length, sha_len, node_len, recov_len, Ky.named_len, Ky.keyPub_len, Ky.hashOf_len] <;> omega) | rfl) rfl ?_
      refine st (ev_assign rfl) rfl rfl rfl ?_
      refine op_nil ?_
      refine ax_then ?_
      refine At.regs (L' := [(2, _), (3, _), (5, _)]) (.cons rfl (.cons rfl (.cons rfl (.nil _)))) ?_
      refine cd_ret ?_
      refine ax_then_ret ?_
      refine rt_cell_tmp (h0 := 2) (.inl rfl) Try.results33 ty27 rfl rfl rfl (by first | omega | (simp only [List.length_append, List.length_cons, List.length_nil, List.length_set, List.length_replicate, List.length_take, List.length_drop, ints_length, wr_length, sha_len, node_len, recov_len, Ky.named_len, Ky.keyPub_len, Ky.hashOf_len] <;> omega) | rfl) rfl ?_
      exact fun w1 sw => ⟨Rt.zeros, ⟨rfl, by rw [Rt.dec_q_no hrr hc36]; rfl, Rt.zeros_one⟩, by rw [Rt.dec_q_no hrr hc36]; rfl, sw.gives (.nil _), Rt.zeros_rd, fun h e hh => (lk_nil hh).elim⟩
    ·
      refine cd_skip ?_
      refine ax_then ?_
      refine At.regs (L' := [(2, _), (5, _)]) (.cons rfl (.cons rfl (.nil _))) ?_
      refine cd_seq ?_
      refine cd_region ?_
      refine st (ld_blk_all (h := 5) ty27 rfl rfl rfl (Rt.rootC_len _ _ (by omega))) rfl rfl rfl ?_
      refine st_store_all 2 ty27 rfl rfl rfl rfl (Rt.rootC_len _ _ (by omega)) (Rt.rootC_one _ _ hi.2.2.2.2) rfl rfl ?_
      refine st (ev_assign rfl) rfl rfl rfl ?_
      refine op_nil ?_
      refine ax_then ?_
      refine At.regs (L' := [(2, _), (3, _)]) (.cons rfl (.cons rfl (.nil _))) ?_
      refine cd_ret ?_
      have hd := Rt.dec_q hrr (Classical.not_not.1 hc36)
      refine rt_cell_tmp (h0 := 2) (.inl rfl) Try.results33 ty27 rfl rfl rfl (Rt.rootC_len _ _ (by omega)) rfl ?_
      exact fun w1 sw => ⟨l, ⟨hl4, by rw [hd], hi.2.2.2.2⟩, by rw [hd], sw.gives (.nil _), (fun y hy => ⟨sw.rd 200 _ rfl y hy, hi.2.2.2.1 y hy⟩), fun h e hh => (lk_nil hh).elim⟩
end Go.Proofs.Ytgfnmolbagilmaa

namespace Go.Proofs.Ytgfnmolbagilmaa.Qm
open Go Fw Sha Ots Mk Go.Proofs.Ytgfnmolbagilmaa
set_option linter.unusedSimpArgs false
set_option linter.unusedVariables false
theorem mflat_at {ms : List Mark} {i j : Nat} (h : AOk ms) (hi : i < ms.length) (hj : j < 35) : (mflat ms)[i * 35 + j]? = (mcells ms[i])[j]? := by
  rw [← mflat_get h hi, List.getElem?_take, if_pos hj, List.getElem?_drop]
theorem mflat_vc {ms : List Mark} {i : Nat} (h : AOk ms) (hi : i < ms.length) : (mflat ms)[i * 35 + 32 + 1]? = some ms[i].vc := by
  have hl := (h ms[i] (List.getElem_mem hi)).1
  rw [Nat.add_assoc, mflat_at h hi (by decide), mcells, List.getElem?_append_right (by rw [ints_length, hl]; decide), ints_length, hl]
  rfl
theorem mflat_vp {ms : List Mark} {i : Nat} (h : AOk ms) (hi : i < ms.length) : (mflat ms)[i * 35 + 32 + 2]? = some ms[i].vp := by
  have hl := (h ms[i] (List.getElem_mem hi)).1
  rw [Nat.add_assoc, mflat_at h hi (by decide), mcells, List.getElem?_append_right (by rw [ints_length, hl]; decide), ints_length, hl]
  rfl
def mrows (ms : List Mark) : List (Value × Nat × List Value) := ms.flatMap fun x => [(x.vc, 32, flat x.cs), (x.vp, 32, flat x.ps)]
theorem mrows_rd {w : World} {ms : List Mark} (h : ∀ x, x ∈ ms → MRd w x) : ∀ y, y ∈ mrows ms → Rd w y.1 y.2.1 y.2.2 := fun y hy => by
  obtain ⟨x, hx, hy⟩ := List.mem_flatMap.1 hy
  have := h x hx
  simp only [List.mem_cons, List.not_mem_nil, or_false] at hy
  rcases hy with rfl | rfl
  · exact this.1
  · exact this.2
theorem mrows_vc {ms : List Mark} {x : Mark} (hx : x ∈ ms) : (x.vc, 32, flat x.cs) ∈ mrows ms := List.mem_flatMap.2 ⟨x, hx, by simp⟩
theorem mrows_vp {ms : List Mark} {x : Mark} (hx : x ∈ ms) : (x.vp, 32, flat x.ps) ∈ mrows ms := List.mem_flatMap.2 ⟨x, hx, by simp⟩
end Go.Proofs.Ytgfnmolbagilmaa.Qm

namespace Go.Proofs.Ytgfnmolbagilmaa.Fw
open Go Go.RowKit Go.Proofs.Ytgfnmolbagilmaa
set_option linter.unusedSimpArgs false
set_option linter.unusedVariables false
def PostE {ι : Type} (w : World) (rs : List (Value × Nat × List Value)) (Φ : ι → Prop) (v : ι → Value) (R : ι → List (Value × Nat × List Value)) (e : Ending) (w' : World) : Prop :=
  ∃ x, Φ x ∧ e = .returned (v x) ∧ Gives w w' [] [] ∧ ∀ y, y ∈ R x → Rd w' y.1 y.2.1 y.2.2 ∧ (y ∈ rs ∨ ∀ b, b ∈ blkOf y.1 → w.heap.size ≤ b)
section
variable {P : Program} {Q : Exit → Act → World → Prop} {ops : Array Oper} {rest : List Oper} {E : Env} {L : List (Nat × Value)} {H : List (Nat × Ent)} {F : List (Nat × FE)}
variable {ty : TypeId} {pos : String} {af : Array Edge} {gd : Option (Nat × Bool)}
theorem st_callE {dst f : Nat} {args : Array Operand} {Ts : Array TypeId} {vs : List Value} {ι : Type} {Φ : ι → Prop} {v : ι → Value} {rs : List (Value × Nat × List Value)} {R : ι → List (Value × Nat × List Value)} (i i0 : Nat) (hf : Has P f) (ha : evs L args.toList = some vs) (hr : lk F i0 = some (.rows rs))
    (hc : ∀ w, Sat E.w0 E.X H F w → Calls P f vs.toArray w (PostE w rs Φ v R)) (hg : wants ops L gd = some true) (hn : Nat.ble (dst + 1) E.n = true)
    (k : ∀ x, Φ x → (∀ y, y ∈ R x → y ∈ rs ∨ ∀ b, b ∈ blkOf y.1 → E.w0.heap.size ≤ b) → At (wpList P ops Q rest) E ((dst, v x) :: L) H ((i, .rows (R x)) :: F)) :
    At (wpList P ops Q (⟨some dst, .call { callee := .value (.func f), args := args, argTypes := Ts }, ty, pos, af, gd⟩ :: rest)) E L H F := by
  refine st_run hg fun a w fa sw => ?_
  unfold Oper.wp
  rw [run_call hf ha fa w]
  refine (hc w sw).mono ?_
  rintro e w' ⟨x, hx, rfl, hG, hR⟩
  show wpList P ops Q rest (a.put (some dst) (v x)) w'
  have s2 := sw.step hG (fun b hb => by cases hb)
  refine k x hx (fun y hy => (hR y hy).2.elim .inl fun h => .inr fun b hb => Nat.le_trans sw.size (h b hb)) _ _ (fa.put (Nat.le_of_ble_eq_true hn) _) (s2.read i (f := .rows (R x)) (fun y hy => (hR y hy).1) (fun h' e hh b hb y hy => ?_))
  have hh2 : lk H h' = some e := by simpa using hh
  rcases (hR y hy).2 with h1 | h1
  · exact s2.off _ _ _ _ hr hh b hb y h1
  · refine .inr fun hb' => ?_
    have h1 := h1 b hb'
    have h2 := Ent.lt (sw.hold _ _ hh2) hb
    omega
end
section
variable {P : Program} {fn : Func} {R : Ending → World → Prop} {E : Env} {L : List (Nat × Value)} {H : List (Nat × Ent)} {F : List (Nat × FE)}
theorem rt_cell_tmp2 {ta T h0 b sz bytes : Nat} {u u2 : Tmp} {v' v2 : Value} {d : TypeDesc} {z : Value} {l : List Value} {TT : TypeId} {fz : Nat × Nat} {e : Exit} (he : e = .ret ∨ e = .normal) (hr : fn.results = #[.cell ta T, .tmp u, .tmp u2]) (ht : Ty P T d sz bytes z) (hd : aggD d = true)
    (hv : lk L ta = some (.pointer (some ⟨b, 0, none⟩))) (hh : lk H h0 = some (.blk b (.cells l.toArray TT fz))) (hl : l.length = sz) (hv' : lk L u = some v') (hv2 : lk L u2 = some v2) (h : ∀ w, Sat E.w0 E.X H F w → R (.returned (.tuple #[.agg l.toArray, v', v2])) w) : AtX (bodyPost P fn R) e E L H F := by
  intro a w fa sw
  have hx := fa.2.2 ta _ hv
  have hx' := fa.2.2 u v' hv'
  have hx2 := fa.2.2 u2 v2 hv2
  have : (results fn a.tmps).run P w = .ok (.tuple #[.agg l.toArray, v', v2]) w := by
    have h2 := run_loadVar_agg (P := P) ht hd (lies_blk (sw.blk_eq hh)) hl
    have h3 : (a.tmps[ta]?.getD undef) = .pointer (some ⟨b, 0, none⟩) := by rw [← Array.getD_eq_getD_getElem?]; exact hx
    have h4 : (a.tmps[u]?.getD undef) = v' := by rw [← Array.getD_eq_getD_getElem?]; exact hx'
    have h5 : (a.tmps[u2]?.getD undef) = v2 := by rw [← Array.getD_eq_getD_getElem?]; exact hx2
    simp [results, hr, h3, h4, h5, asAddr, h2]
  rcases he with rfl | rfl <;> exact ⟨fa.1, _, this, h w sw⟩
end
end Go.Proofs.Ytgfnmolbagilmaa.Fw

namespace Go.Proofs.Ytgfnmolbagilmaa.Rt
open Go Fw Sha Ky Go.Proofs.Ytgfnmolbagilmaa
set_option linter.unusedSimpArgs false
set_option linter.unusedVariables false
structure Ev where
  pb : Value
  mv : Value
  body : List Int
  ms : List Qm.Mark
def ecells (x : Ev) : List Value := [x.pb, x.mv]
def eflat (es : List Ev) : List Value := es.flatMap ecells
def EvOk (x : Ev) : Prop := x.body.length ≤ 140737488351232 ∧ Byt x.body ∧ Qm.AOk x.ms ∧ x.ms.length ≤ 2000000000000
def EvRd (w : World) (x : Ev) : Prop := Rd w x.pb 1 (ints .u8 x.body) ∧ Rd w x.mv 35 (Qm.mflat x.ms) ∧ ∀ m, m ∈ x.ms → Qm.MRd w m
def erow (x : Ev) : List (Value × Nat × List Value) := (x.pb, 1, ints .u8 x.body) :: (x.mv, 35, Qm.mflat x.ms) :: Qm.mrows x.ms
def erows (es : List Ev) : List (Value × Nat × List Value) := es.flatMap erow
theorem erow_rd {w : World} {x : Ev} (h : EvRd w x) : ∀ y, y ∈ erow x → Rd w y.1 y.2.1 y.2.2 := fun y hy => by
  rcases List.mem_cons.1 hy with rfl | hy
  · exact h.1
  · rcases List.mem_cons.1 hy with rfl | hy
    · exact h.2.1
    · exact Qm.mrows_rd h.2.2 y hy
theorem erows_rd {w : World} {es : List Ev} (h : ∀ x, x ∈ es → EvRd w x) : ∀ y, y ∈ erows es → Rd w y.1 y.2.1 y.2.2 := fun y hy => by
  obtain ⟨x, hx, hy⟩ := List.mem_flatMap.1 hy
  exact erow_rd (h x hx) y hy
theorem ev_of_row {w : World} {x : Ev} (h : ∀ y, y ∈ erow x → Rd w y.1 y.2.1 y.2.2) : EvRd w x :=
  ⟨h (x.pb, 1, ints .u8 x.body) (List.mem_cons_self ..), h (x.mv, 35, Qm.mflat x.ms) (List.mem_cons_of_mem _ (List.mem_cons_self ..)),
    fun m hm => ⟨h (m.vc, 32, flat m.cs) (List.mem_cons_of_mem _ (List.mem_cons_of_mem _ (Qm.mrows_vc hm))), h (m.vp, 32, flat m.ps) (List.mem_cons_of_mem _ (List.mem_cons_of_mem _ (Qm.mrows_vp hm)))⟩⟩
theorem ev_of_rows {w : World} {es : List Ev} (h : ∀ y, y ∈ erows es → Rd w y.1 y.2.1 y.2.2) {x : Ev} (hx : x ∈ es) : EvRd w x :=
  ev_of_row fun y hy => h y (List.mem_flatMap.2 ⟨x, hx, hy⟩)
theorem eflat_len : ∀ (es : List Ev), (eflat es).length = es.length * 2
  | [] => rfl
  | x :: es => by
    have := eflat_len es
    rw [eflat] at this
    rw [eflat, List.flatMap_cons, List.length_append, List.length_cons, this]
    simp [ecells]
    omega
theorem eflat_drop : ∀ (l : List Ev) (i : Nat), (eflat l).drop (i * 2) = eflat (l.drop i)
  | l, 0 => by simp
  | [], i + 1 => by simp [eflat]
  | x :: l, i + 1 => by
    rw [eflat, List.flatMap_cons, show (i + 1) * 2 = 2 + i * 2 by omega, ← List.drop_drop, List.drop_left' (by rfl), List.drop_succ_cons]
    exact eflat_drop l i
theorem eflat_get {l : List Ev} {i : Nat} (hi : i < l.length) : ((eflat l).drop (i * 2)).take 2 = [l[i].pb, l[i].mv] := by
  rw [eflat_drop, List.drop_eq_getElem_cons hi, eflat, List.flatMap_cons, List.take_left' (by rfl)]
  rfl
def k0 (r : RT) : KD := r.roles.getD 0 ⟨[], 0⟩
open Classical in
noncomputable def next (r : RT) (b : List Int) (ms : List Qm.Mark) : RT × Int :=
  if (dec b).2 ≠ 0 then (zeroR, 2) else if (dec b).1.ver - 1 ≠ r.ver then (zeroR, 6)
  else if ¬ meets b ms (k0 r).ks (k0 r).need ∨ ¬ meets b ms (k0 (dec b).1).ks (k0 (dec b).1).need then (zeroR, 4) else ((dec b).1, 0)
/-- a root as it comes out of reading, or of nothing -/
structure RTok (r : RT) : Prop where
  len : r.roles.length = 4
  h32 : ∀ k, k ∈ r.roles → H32 k.ks
  few : ∀ k, k ∈ r.roles → k.ks.length ≤ 1000000
theorem zero_ok : RTok zeroR := ⟨rfl, fun k hk => by rw [(List.mem_replicate.1 hk).2]; exact H32.nil, fun k hk => by rw [(List.mem_replicate.1 hk).2]; exact Nat.zero_le _⟩
theorem dec_two (b : List Int) : (decOK b (dec b).1 ∧ (dec b).2 = 0) ∨ dec b = (zeroR, 2) := by
  unfold dec
  split
  · next h => exact .inl ⟨Classical.choose_spec h, rfl⟩
  · exact .inr rfl
theorem dec_ok (b : List Int) : RTok (dec b).1 := by
  rcases dec_two b with ⟨h, _⟩ | h
  · exact ⟨h.1, h.2.1, fun k hk => by have := (h.2.2.1.1 k hk).2.2.1; omega⟩
  · rw [h]; exact zero_ok
theorem dec_ver (b : List Int) : 0 ≤ (dec b).1.ver ∧ (dec b).1.ver ≤ 1073741824 := by
  rcases dec_two b with ⟨h, _⟩ | h
  · have := h.2.2.1.2.1
    have := h.2.2.1.2.2.1
    omega
  · rw [h]; exact ⟨by decide, by decide⟩
theorem next_ok (r : RT) (b : List Int) (ms : List Qm.Mark) : RTok (next r b ms).1 := by
  unfold next
  repeat' split
  · exact zero_ok
  · exact zero_ok
  · exact zero_ok
  · exact dec_ok b
theorem k0_get {ver exp : Int} {l : List Rol} (hl : l.length = 4) : k0 ⟨ver, exp, kds l⟩ = (l.getD 0 rol0).2 := by
  match l, hl with
  | [a, b, c, d], _ => rfl
theorem rootC_rol0 (ver exp : Int) {l : List Rol} (hl : l.length = 4) : ((rootC ver exp l).drop 2).take 2 = [(l.getD 0 rol0).1, .int .i64 (l.getD 0 rol0).2.need] := by
  match l, hl with
  | [a, b, c, d], _ => rfl
noncomputable def follow (r : RT) : List Ev → RT × Nat × Int
  | [] => (r, 0, 0)
  | x :: es => if (next r x.body x.ms).2 ≠ 0 then (r, 0, (next r x.body x.ms).2) else ((follow (next r x.body x.ms).1 es).1, (follow (next r x.body x.ms).1 es).2.1 + 1, (follow (next r x.body x.ms).1 es).2.2)
/-- where the walk stands: i roots have followed -/
def At (r0 : RT) (es : List Ev) (i : Nat) (r : RT) : Prop := (follow r0 es).1 = (follow r (es.drop i)).1 ∧ (follow r0 es).2.1 = (follow r (es.drop i)).2.1 + i ∧ (follow r0 es).2.2 = (follow r (es.drop i)).2.2
theorem At.init (r : RT) (es : List Ev) : At r es 0 r := ⟨rfl, rfl, rfl⟩
theorem At.stop {r0 r : RT} {es : List Ev} {i : Nat} (h : At r0 es i r) (hi : i < es.length) (hn : (next r es[i].body es[i].ms).2 ≠ 0) : follow r0 es = (r, i, (next r es[i].body es[i].ms).2) := by
  obtain ⟨h1, h2, h3⟩ := h
  rw [List.drop_eq_getElem_cons hi, follow, if_pos hn] at h1 h2 h3
  refine Prod.ext h1 (Prod.ext ?_ h3)
  show (follow r0 es).2.1 = i
  rw [h2]
  exact Nat.zero_add _
theorem At.step {r0 r : RT} {es : List Ev} {i : Nat} (h : At r0 es i r) (hi : i < es.length) (hn : ¬ (next r es[i].body es[i].ms).2 ≠ 0) : At r0 es (i + 1) (next r es[i].body es[i].ms).1 := by
  obtain ⟨h1, h2, h3⟩ := h
  rw [List.drop_eq_getElem_cons hi, follow, if_neg hn] at h1 h2 h3
  exact ⟨h1, by rw [h2]; show _ + 1 + i = _ + (i + 1); omega, h3⟩
theorem At.done {r0 r : RT} {es : List Ev} (h : At r0 es es.length r) : follow r0 es = (r, es.length, 0) := by
  obtain ⟨h1, h2, h3⟩ := h
  rw [List.drop_length, follow] at h1 h2 h3
  refine Prod.ext h1 (Prod.ext ?_ h3)
  show (follow r0 es).2.1 = _
  rw [h2]
  exact Nat.zero_add _
end Go.Proofs.Ytgfnmolbagilmaa.Rt

namespace Go.Proofs.Ytgfnmolbagilmaa
open Go Go.RowKit Fw
open Sha
open Ots
open Mk
set_option linter.unusedVariables false
set_option linter.unusedSimpArgs false
set_option maxRecDepth 20000 in
set_option maxHeartbeats 4000000 in
theorem next_any (pb mv : Value) (ver exp : Int) (l : List Rt.Rol) (body : List Int) (ms : List Qm.Mark) (w : World) (hl : l.length = 4) (hone : ∀ x, x ∈ l → x.1.oneCell' = true) (hk : Rt.RTok (⟨ver, exp, Rt.kds l⟩ : Rt.RT)) (hbl : body.length ≤ 140737488351232) (hB : Byt body) (ha : Qm.AOk ms) (hml : ms.length ≤ 2000000000000) (h : ∀ y, y ∈ Rt.rowsR l → Rd w y.1 y.2.1 y.2.2) (hbody : Rd w pb 1 (ints .u8 body)) (hm : Rd w mv 35 (Qm.mflat ms)) (hmr : ∀ x, x ∈ ms → Qm.MRd w x) : Calls Try.prog 14 #[.agg (List.toArray (Rt.rootC ver exp l)), .agg (List.toArray [pb, mv])] w (PostR (ι := List Rt.Rol) w (fun l' => l'.length = 4 ∧ Rt.kds l' = (Rt.next (⟨ver, exp, Rt.kds l⟩ : Rt.RT) body ms).1.roles ∧ ∀ x, x ∈ l' → x.1.oneCell' = true) (fun l' => .tuple #[.agg (List.toArray (Rt.rootC (Rt.next (⟨ver, exp, Rt.kds l⟩ : Rt.RT) body ms).1.ver (Rt.next (⟨ver, exp, Rt.kds l⟩ : Rt.RT) body ms).1.exp l')), .int .i64 (Rt.next (⟨ver, exp, Rt.kds l⟩ : Rt.RT) body ms).2]) (fun _ => []) (fun l' => Rt.rowsR l')) := by
  have hdv := Rt.dec_ver body
  have hdk := Rt.dec_ok body
  refine calls_at (vs := [.agg (List.toArray (Rt.rootC ver exp l)), .agg (List.toArray [pb, mv])]) (X := []) (H := []) (F := [(200, .rows (Rt.rowsR l)), (22, .sl (pb) 1 (ints .u8 (body))), (21, .sl (mv) 35 (Qm.mflat (ms)))]) 43 Try.func14 rfl rfl rfl (((Sat.rd0 21 hm).more 22 hbody).read (f := .rows (Rt.rowsR l)) 200 h off_nil) ?_
  refine cd_seq ?_
  refine cd_region ?_
  refine st_box (h := 2) rfl rfl rfl rfl (fun b2 => ?_)
  refine st_box (h := 3) rfl rfl rfl rfl (fun b3 => ?_)
  refine st_alloc (h := 4) ty27 rfl rfl rfl (fun b4 => ?_)
  refine st (ev_assign rfl) rfl rfl rfl ?_
  refine op_nil ?_
  refine ax_then ?_
  refine At.regs (L' := [(2, _), (3, _), (4, _), (5, _)]) (.cons rfl (.cons rfl (.cons rfl (.cons rfl (.nil _))))) ?_
  refine cd_seq ?_
  refine at_freeze_blk (h := 2) (H' := [(3, _), (4, _)]) 2 rfl (.cons rfl (.cons rfl (.nil _))) rfl ?_
  refine at_freeze_blk (h := 3) (H' := [(4, _)]) 3 rfl (.cons rfl (.nil _)) rfl ?_
  refine cd_region ?_
  refine st (ev_fieldAddr (b := _) Try.underlying31 (f := _) rfl ty28 (by decide) rfl) rfl rfl rfl ?_
  refine st (ld_mem1 (h := 3) ty28 rfl rfl rfl (Nat.zero_add _).symm rfl) rfl rfl rfl ?_
  refine st_callR 201 has31 rfl (fun w1 sw => wdecode_any pb body w1 hbl hB (sw.sl_rd (h := 22) rfl)) rfl rfl (fun l' hx11 hf11 => ?_)
  have hl4' := hx11.1
  have hk1 := hk.h32 _ (Rt.kds_get (l := l) (i := 0) (by omega))
  have hk2 := hk.few _ (Rt.kds_get (l := l) (i := 0) (by omega))
  have hk3 := hdk.h32 _ (hx11.2.1 ▸ Rt.kds_get (l := l') (i := 0) (by omega))
  have hk4 := hdk.few _ (hx11.2.1 ▸ Rt.kds_get (l := l') (i := 0) (by omega))
  have e1 : Rt.k0 (⟨ver, exp, Rt.kds l⟩ : Rt.RT) = (l.getD 0 Rt.rol0).2 := Rt.k0_get hl
  have e2 : Rt.k0 (Rt.dec body).1 = (l'.getD 0 Rt.rol0).2 := by rw [← Rt.k0_get (ver := (Rt.dec body).1.ver) (exp := (Rt.dec body).1.exp) hx11.1, hx11.2.1]
  refine st (ev_move rfl) rfl rfl rfl ?_
  refine st (ev_extract rfl rfl) rfl rfl rfl ?_
  refine st (ev_extract rfl rfl) rfl rfl rfl ?_
  refine st_alloc (h := 6) ty27 rfl rfl rfl (fun b6 => ?_)
  refine st_store_all 6 ty27 rfl rfl rfl rfl (Rt.rootC_len _ _ (by omega)) (Rt.rootC_one _ _ hx11.2.2) rfl rfl ?_
  refine st (ev_assign rfl) rfl rfl rfl ?_
  refine op_nil ?_
  refine ax_then ?_
  refine At.regs (L' := [(2, _), (3, _), (4, _), (5, _), (6, _), (7, _)]) (.cons rfl (.cons rfl (.cons rfl (.cons rfl (.cons rfl (.cons rfl (.nil _))))))) ?_
  refine cd_seq ?_
  refine cd_block ?_
  refine cd_seq ?_
  refine at_freeze_blk (h := 6) (H' := [(4, _)]) 6 rfl (.cons rfl (.nil _)) rfl ?_
  refine cd_region ?_
  refine st (ev_move rfl) rfl rfl rfl ?_
  refine st (ev_neq rfl rfl) rfl rfl rfl ?_
  refine st (ev_assign rfl) rfl rfl rfl ?_
  refine op_nil ?_
  refine ax_then ?_
  refine At.regs (L' := [(2, _), (3, _), (4, _), (5, _), (6, _), (14, _)]) (.cons rfl (.cons rfl (.cons rfl (.cons rfl (.cons rfl (.cons rfl (.nil _))))))) ?_
  refine cd_if rfl (fun hc14 => ?_) (fun hc14 => ?_)
  ·
    refine cd_seq ?_
    refine cd_region ?_
    refine st (ev_build_struct ty27 rfl pl27 rfl rfl) rfl rfl rfl ?_
    refine st_store_all 4 ty27 rfl rfl rfl rfl (by first | omega | (simp only [List.length_append, List.length_cons, List.length_nil, List.length_set, List.length_replicate, List.length_take, List.length_drop, ints_length, wr_length, sha_len, node_len, recov_len, Ky.named_len, Ky.keyPub_len, Ky.hashOf_len] <;> omega) | rfl) (by first | (intro u hu; simp at hu; rcases hu with rfl | rfl <;> rfl) | (simp [Value.oneCell'])) (by first | omega | (simp only [List.length_append, List.length_cons, List.length_nil, List.length_set, List.length_replicate, List.length_take, List.length_drop, ints_length, wr_length, sha_len, node_len, recov_len, Ky.named_len, Ky.keyPub_len, Ky.hashOf_len] <;> omega) | rfl) rfl ?_
    refine st (ev_assign rfl) rfl rfl rfl ?_
    refine op_nil ?_
    refine ax_then ?_
    refine At.regs (L' := [(4, _), (5, _), (6, _)]) (.cons rfl (.cons rfl (.cons rfl (.nil _)))) ?_
    refine cd_ret ?_
    refine ax_block_ret ?_
    refine ax_then_ret ?_
    refine rt_cell_tmp (h0 := 4) (.inl rfl) Try.results14 ty27 rfl rfl rfl (by first | omega | (simp only [List.length_append, List.length_cons, List.length_nil, List.length_set, List.length_replicate, List.length_take, List.length_drop, ints_length, wr_length, sha_len, node_len, recov_len, Ky.named_len, Ky.keyPub_len, Ky.hashOf_len] <;> omega) | rfl) rfl ?_
    exact fun w1 sw => ⟨Rt.zeros, ⟨rfl, by rw [Rt.next, if_pos hc14]; rfl, Rt.zeros_one⟩, by rw [Rt.next, if_pos hc14]; rfl, sw.gives (.nil _), Rt.zeros_rd, fun h e hh => (lk_nil hh).elim⟩
  ·
    refine cd_seq ?_
    refine cd_region ?_
    refine st (ev_fieldAddr (b := _) Try.underlying27 (f := _) rfl ty3 (by decide) rfl) rfl rfl rfl ?_
    refine st (ld_mem1 (h := 6) ty3 rfl rfl rfl (Nat.zero_add _).symm rfl) rfl rfl rfl ?_
    refine st (ev_sub64 rfl rfl (by omega) (by omega)) rfl rfl rfl ?_
    refine st (ev_fieldAddr (b := _) Try.underlying27 (f := _) rfl ty3 (by decide) rfl) rfl rfl rfl ?_
    refine st (ld_mem1 (h := 2) ty3 rfl rfl rfl (Nat.zero_add _).symm rfl) rfl rfl rfl ?_
    refine st (ev_neq rfl rfl) rfl rfl rfl ?_
    refine st (ev_assign rfl) rfl rfl rfl ?_
    refine op_nil ?_
    refine ax_then ?_
    refine At.regs (L' := [(2, _), (3, _), (4, _), (5, _), (6, _), (18, _)]) (.cons rfl (.cons rfl (.cons rfl (.cons rfl (.cons rfl (.cons rfl (.nil _))))))) ?_
    refine cd_if rfl (fun hc18 => ?_) (fun hc18 => ?_)
    ·
      refine cd_seq ?_
      refine cd_region ?_
      refine st (ev_build_struct ty27 rfl pl27 rfl rfl) rfl rfl rfl ?_
      refine st_store_all 4 ty27 rfl rfl rfl rfl (by first | omega | (simp only [List.length_append, List.length_cons, List.length_nil, List.length_set, List.length_replicate, List.length_take, List.length_drop, ints_length, wr_length, sha_len, node_len, recov_len, Ky.named_len, Ky.keyPub_len, Ky.hashOf_len] <;> omega) | rfl) (by first | (intro u hu; simp at hu; rcases hu with rfl | rfl <;> rfl) | (simp [Value.oneCell'])) (by first | omega | (simp only [List.length_append, List.length_cons, List.length_nil, List.length_set, List.length_replicate, List.length_take, List.length_drop, ints_length, wr_length, sha_len, node_len, recov_len, Ky.named_len, Ky.keyPub_len, Ky.hashOf_len] <;> omega) | rfl) rfl ?_
      refine st (ev_assign rfl) rfl rfl rfl ?_
      refine op_nil ?_
      refine ax_then ?_
      refine At.regs (L' := [(4, _), (5, _), (6, _)]) (.cons rfl (.cons rfl (.cons rfl (.nil _)))) ?_
      refine cd_ret ?_
      refine ax_block_ret ?_
      refine ax_then_ret ?_
      refine rt_cell_tmp (h0 := 4) (.inl rfl) Try.results14 ty27 rfl rfl rfl (by first | omega | (simp only [List.length_append, List.length_cons, List.length_nil, List.length_set, List.length_replicate, List.length_take, List.length_drop, ints_length, wr_length, sha_len, node_len, recov_len, Ky.named_len, Ky.keyPub_len, Ky.hashOf_len] <;> omega) | rfl) rfl ?_
      exact fun w1 sw => ⟨Rt.zeros, ⟨rfl, by rw [Rt.next, if_neg hc14, if_pos hc18]; rfl, Rt.zeros_one⟩, by rw [Rt.next, if_neg hc14, if_pos hc18]; rfl, sw.gives (.nil _), Rt.zeros_rd, fun h e hh => (lk_nil hh).elim⟩
    ·
      refine cd_seq ?_
      refine cd_region ?_
      refine st (ld_mem_all (h := 3) ty31 rfl rfl rfl rfl) rfl rfl rfl ?_
      refine st (ev_fieldAddr (b := _) Try.underlying27 (f := _) rfl ty25 (by decide) rfl) rfl rfl rfl ?_
      refine st (ev_indexAddr_arr Try.underlying25 ty24 rfl rfl (by omega) (by omega)) rfl rfl rfl ?_
      refine st (ld_mem (h := 2) (k := 2) ty24 rfl rfl rfl rfl (by rw [Rt.rootC_len _ _ (by omega)]; decide)) rfl rfl rfl ?_
      refine at_eq (i := 30) (v' := .agg (List.toArray [(l.getD 0 Rt.rol0).1, .int .i64 (l.getD 0 Rt.rol0).2.need])) rfl (congrArg (fun x => Value.agg (List.toArray x)) (Rt.rootC_rol0 _ _ hl)) ?_
      refine st_callv has32 rfl (fun w1 sw => meets_any pb mv (l.getD 0 Rt.rol0).1 (l.getD 0 Rt.rol0).2.need body ms (l.getD 0 Rt.rol0).2.ks w1 (sw.sl_rd (h := 22) rfl) (by omega) ha hml (sw.sl_rd (h := 21) rfl) (fun x hx => (Qm.Keeps.of sw).mrd (hmr x hx)) hk1 (by omega) (sw.row (i := 200) rfl (Rt.rowsR_mem (by omega)))) rfl rfl ?_
      refine st (ev_not_if rfl) rfl rfl rfl ?_
      refine st (ev_move rfl) rfl rfl rfl ?_
      refine at_split_if (i := 33) rfl (fun hg33 => ?_) (fun hg33 => ?_)
      ·
        refine st_skip rfl rfl rfl ?_
        refine st_skip rfl rfl rfl ?_
        refine st_skip rfl rfl rfl ?_
        refine st_skip rfl rfl rfl ?_
        refine st_skip rfl rfl rfl ?_
        refine st_skip rfl rfl rfl ?_
        refine st (ev_pick_t rfl rfl) rfl rfl rfl ?_
        refine st (ev_assign rfl) rfl rfl rfl ?_
        refine op_nil ?_
        refine ax_then ?_
        refine At.regs (L' := [(4, _), (5, _), (6, _), (26, _)]) (.cons rfl (.cons rfl (.cons rfl (.cons rfl (.nil _))))) ?_
        refine cd_true rfl ?_
        refine cd_seq ?_
        refine cd_region ?_
        refine st (ev_build_struct ty27 rfl pl27 rfl rfl) rfl rfl rfl ?_
        refine st_store_all 4 ty27 rfl rfl rfl rfl (by first | omega | (simp only [List.length_append, List.length_cons, List.length_nil, List.length_set, List.length_replicate, List.length_take, List.length_drop, ints_length, wr_length, sha_len, node_len, recov_len, Ky.named_len, Ky.keyPub_len, Ky.hashOf_len] <;> omega) | rfl) (by first | (intro u hu; simp at hu; rcases hu with rfl | rfl <;> rfl) | (simp [Value.oneCell'])) (by first | omega | (simp only [List.length_append, List.length_cons, List.length_nil, List.length_set, List.length_replicate, List.length_take, List.length_drop, ints_length, wr_length, sha_len, node_len, recov_len, Ky.named_len, Ky.keyPub_len, Ky.hashOf_len] <;> omega) | rfl) rfl ?_
        refine st (ev_assign rfl) rfl rfl rfl ?_
        refine op_nil ?_
        refine ax_then ?_
        refine At.regs (L' := [(4, _), (5, _), (6, _)]) (.cons rfl (.cons rfl (.cons rfl (.nil _)))) ?_
        refine cd_ret ?_
        refine ax_block_ret ?_
        refine ax_then_ret ?_
        refine rt_cell_tmp (h0 := 4) (.inl rfl) Try.results14 ty27 rfl rfl rfl (by first | omega | (simp only [List.length_append, List.length_cons, List.length_nil, List.length_set, List.length_replicate, List.length_take, List.length_drop, ints_length, wr_length, sha_len, node_len, recov_len, Ky.named_len, Ky.keyPub_len, Ky.hashOf_len] <;> omega) | rfl) rfl ?_
        exact fun w1 sw => ⟨Rt.zeros, ⟨rfl, by rw [Rt.next, if_neg hc14, if_neg hc18, if_pos (by rw [e1, e2]; exact .inl hg33)]; rfl, Rt.zeros_one⟩, by rw [Rt.next, if_neg hc14, if_neg hc18, if_pos (by rw [e1, e2]; exact .inl hg33)]; rfl, sw.gives (.nil _), Rt.zeros_rd, fun h e hh => (lk_nil hh).elim⟩
      ·
        refine st (ld_mem_all (h := 3) ty31 rfl rfl rfl rfl) rfl rfl rfl ?_
        refine st (ev_fieldAddr (b := _) Try.underlying27 (f := _) rfl ty25 (by decide) rfl) rfl rfl rfl ?_
        refine st (ev_indexAddr_arr Try.underlying25 ty24 rfl rfl (by omega) (by omega)) rfl rfl rfl ?_
        refine st (ld_mem (h := 6) (k := 2) ty24 rfl rfl rfl rfl (by rw [Rt.rootC_len _ _ (by omega)]; decide)) rfl rfl rfl ?_
        refine at_eq (i := 37) (v' := .agg (List.toArray [(l'.getD 0 Rt.rol0).1, .int .i64 (l'.getD 0 Rt.rol0).2.need])) rfl (congrArg (fun x => Value.agg (List.toArray x)) (Rt.rootC_rol0 _ _ hx11.1)) ?_
        refine st_callv has32 rfl (fun w1 sw => meets_any pb mv (l'.getD 0 Rt.rol0).1 (l'.getD 0 Rt.rol0).2.need body ms (l'.getD 0 Rt.rol0).2.ks w1 (sw.sl_rd (h := 22) rfl) (by omega) ha hml (sw.sl_rd (h := 21) rfl) (fun x hx => (Qm.Keeps.of sw).mrd (hmr x hx)) hk3 (by omega) (sw.row (i := 201) rfl (Rt.rowsR_mem (by omega)))) rfl rfl ?_
        refine st (ev_not_if rfl) rfl rfl rfl ?_
        refine st (ev_pick_f rfl rfl) rfl rfl rfl ?_
        refine st (ev_assign rfl) rfl rfl rfl ?_
        refine op_nil ?_
        refine ax_then ?_
        refine At.regs (L' := [(4, _), (5, _), (6, _), (26, _)]) (.cons rfl (.cons rfl (.cons rfl (.cons rfl (.nil _))))) ?_
        refine cd_if rfl (fun hc26 => ?_) (fun hc26 => ?_)
        ·
          refine cd_seq ?_
          refine cd_region ?_
          refine st (ev_build_struct ty27 rfl pl27 rfl rfl) rfl rfl rfl ?_
          refine st_store_all 4 ty27 rfl rfl rfl rfl (by first | omega | (simp only [List.length_append, List.length_cons, List.length_nil, List.length_set, List.length_replicate, List.length_take, List.length_drop, ints_length, wr_length, sha_len, node_len, recov_len, Ky.named_len, Ky.keyPub_len, Ky.hashOf_len] <;> omega) | rfl) (by first | (intro u hu; simp at hu; rcases hu with rfl | rfl <;> rfl) | (simp [Value.oneCell'])) (by first | omega | (simp only [List.length_append, List.length_cons, List.length_nil, List.length_set, List.length_replicate, List.length_take, List.length_drop, ints_length, wr_length, sha_len, node_len, recov_len, Ky.named_len, Ky.keyPub_len, Ky.hashOf_len] <;> omega) | rfl) rfl ?_
          refine st (ev_assign rfl) rfl rfl rfl ?_
          refine op_nil ?_
          refine ax_then ?_
          refine At.regs (L' := [(4, _), (5, _), (6, _)]) (.cons rfl (.cons rfl (.cons rfl (.nil _)))) ?_
          refine cd_ret ?_
          refine ax_block_ret ?_
          refine ax_then_ret ?_
          refine rt_cell_tmp (h0 := 4) (.inl rfl) Try.results14 ty27 rfl rfl rfl (by first | omega | (simp only [List.length_append, List.length_cons, List.length_nil, List.length_set, List.length_replicate, List.length_take, List.length_drop, ints_length, wr_length, sha_len, node_len, recov_len, Ky.named_len, Ky.keyPub_len, Ky.hashOf_len] <;> omega) | rfl) rfl ?_
          exact fun w1 sw => ⟨Rt.zeros, ⟨rfl, by rw [Rt.next, if_neg hc14, if_neg hc18, if_pos (by rw [e1, e2]; exact .inr hc26)]; rfl, Rt.zeros_one⟩, by rw [Rt.next, if_neg hc14, if_neg hc18, if_pos (by rw [e1, e2]; exact .inr hc26)]; rfl, sw.gives (.nil _), Rt.zeros_rd, fun h e hh => (lk_nil hh).elim⟩
        ·
          refine cd_skip ?_
          refine ax_block ?_
          refine ax_then ?_
          refine At.regs (L' := [(4, _), (5, _), (6, _)]) (.cons rfl (.cons rfl (.cons rfl (.nil _)))) ?_
          refine cd_seq ?_
          refine cd_region ?_
          refine st (ld_mem_all (h := 6) ty27 rfl rfl rfl (Rt.rootC_len _ _ (by omega))) rfl rfl rfl ?_
          refine st_store_all 4 ty27 rfl rfl rfl rfl (Rt.rootC_len _ _ (by omega)) (Rt.rootC_one _ _ hx11.2.2) rfl rfl ?_
          refine st (ev_assign rfl) rfl rfl rfl ?_
          refine op_nil ?_
          refine ax_then ?_
          refine At.regs (L' := [(4, _), (5, _)]) (.cons rfl (.cons rfl (.nil _))) ?_
          refine cd_ret ?_
          have hd : (Rt.next (⟨ver, exp, Rt.kds l⟩ : Rt.RT) body ms) = ((Rt.dec body).1, 0) := by rw [Rt.next, if_neg hc14, if_neg hc18, if_neg (by rw [e1, e2]; exact fun hh => hh.elim hg33 hc26)]
          refine rt_cell_tmp (h0 := 4) (.inl rfl) Try.results14 ty27 rfl rfl rfl (Rt.rootC_len _ _ (by omega)) rfl ?_
          exact fun w1 sw => ⟨l', ⟨hx11.1, by rw [hd]; exact hx11.2.1, hx11.2.2⟩, by rw [hd], sw.gives (.nil _), (fun y hy => ⟨sw.rd 201 _ rfl y hy, hf11 y hy⟩), fun h e hh => (lk_nil hh).elim⟩
set_option maxRecDepth 20000 in
set_option maxHeartbeats 4000000 in
theorem qnext_any (pb mv : Value) (ver exp : Int) (l : List Rt.Rol) (body : List Int) (ms : List Qm.Mark) (w : World) (hl : l.length = 4) (hone : ∀ x, x ∈ l → x.1.oneCell' = true) (hk : Rt.RTok (⟨ver, exp, Rt.kds l⟩ : Rt.RT)) (hbl : body.length ≤ 140737488351232) (hB : Byt body) (ha : Qm.AOk ms) (hml : ms.length ≤ 2000000000000) (h : ∀ y, y ∈ Rt.rowsR l → Rd w y.1 y.2.1 y.2.2) (hbody : Rd w pb 1 (ints .u8 body)) (hm : Rd w mv 35 (Qm.mflat ms)) (hmr : ∀ x, x ∈ ms → Qm.MRd w x) : Calls Try.prog 15 #[.agg (List.toArray (Rt.rootC ver exp l)), .agg (List.toArray [pb, mv])] w (PostR (ι := List Rt.Rol) w (fun l' => l'.length = 4 ∧ Rt.kds l' = (Rt.next (⟨ver, exp, Rt.kds l⟩ : Rt.RT) body ms).1.roles ∧ ∀ x, x ∈ l' → x.1.oneCell' = true) (fun l' => .tuple #[.agg (List.toArray (Rt.rootC (Rt.next (⟨ver, exp, Rt.kds l⟩ : Rt.RT) body ms).1.ver (Rt.next (⟨ver, exp, Rt.kds l⟩ : Rt.RT) body ms).1.exp l')), .int .i64 (Rt.next (⟨ver, exp, Rt.kds l⟩ : Rt.RT) body ms).2]) (fun _ => []) (fun l' => Rt.rowsR l')) := by
  have hdv := Rt.dec_ver body
  have hdk := Rt.dec_ok body
  refine calls_at (vs := [.agg (List.toArray (Rt.rootC ver exp l)), .agg (List.toArray [pb, mv])]) (X := []) (H := []) (F := [(200, .rows (Rt.rowsR l)), (22, .sl (pb) 1 (ints .u8 (body))), (21, .sl (mv) 35 (Qm.mflat (ms)))]) 43 Try.func15 rfl rfl rfl (((Sat.rd0 21 hm).more 22 hbody).read (f := .rows (Rt.rowsR l)) 200 h off_nil) ?_
  refine cd_seq ?_
  refine cd_region ?_
  refine st_box (h := 2) rfl rfl rfl rfl (fun b2 => ?_)
  refine st_box (h := 3) rfl rfl rfl rfl (fun b3 => ?_)
  refine st_alloc (h := 4) ty27 rfl rfl rfl (fun b4 => ?_)
  refine st (ev_assign rfl) rfl rfl rfl ?_
  refine op_nil ?_
  refine ax_then ?_
  refine At.regs (L' := [(2, _), (3, _), (4, _), (5, _)]) (.cons rfl (.cons rfl (.cons rfl (.cons rfl (.nil _))))) ?_
  refine cd_seq ?_
  refine at_freeze_blk (h := 2) (H' := [(3, _), (4, _)]) 2 rfl (.cons rfl (.cons rfl (.nil _))) rfl ?_
  refine at_freeze_blk (h := 3) (H' := [(4, _)]) 3 rfl (.cons rfl (.nil _)) rfl ?_
  refine cd_region ?_
  refine st (ev_fieldAddr (b := _) Try.underlying31 (f := _) rfl ty28 (by decide) rfl) rfl rfl rfl ?_
  refine st (ld_mem1 (h := 3) ty28 rfl rfl rfl (Nat.zero_add _).symm rfl) rfl rfl rfl ?_
  refine st_callR 201 has33 rfl (fun w1 sw => qdecroot_any pb body w1 hbl hB (sw.sl_rd (h := 22) rfl)) rfl rfl (fun l' hx11 hf11 => ?_)
  have hl4' := hx11.1
  have hk1 := hk.h32 _ (Rt.kds_get (l := l) (i := 0) (by omega))
  have hk2 := hk.few _ (Rt.kds_get (l := l) (i := 0) (by omega))
  have hk3 := hdk.h32 _ (hx11.2.1 ▸ Rt.kds_get (l := l') (i := 0) (by omega))
  have hk4 := hdk.few _ (hx11.2.1 ▸ Rt.kds_get (l := l') (i := 0) (by omega))
  have e1 : Rt.k0 (⟨ver, exp, Rt.kds l⟩ : Rt.RT) = (l.getD 0 Rt.rol0).2 := Rt.k0_get hl
  have e2 : Rt.k0 (Rt.dec body).1 = (l'.getD 0 Rt.rol0).2 := by rw [← Rt.k0_get (ver := (Rt.dec body).1.ver) (exp := (Rt.dec body).1.exp) hx11.1, hx11.2.1]
  refine st (ev_move rfl) rfl rfl rfl ?_
  refine st (ev_extract rfl rfl) rfl rfl rfl ?_
  refine st (ev_extract rfl rfl) rfl rfl rfl ?_
  refine st_alloc (h := 6) ty27 rfl rfl rfl (fun b6 => ?_)
  refine st_store_all 6 ty27 rfl rfl rfl rfl (Rt.rootC_len _ _ (by omega)) (Rt.rootC_one _ _ hx11.2.2) rfl rfl ?_
  refine st (ev_assign rfl) rfl rfl rfl ?_
  refine op_nil ?_
  refine ax_then ?_
  refine At.regs (L' := [(2, _), (3, _), (4, _), (5, _), (6, _), (7, _)]) (.cons rfl (.cons rfl (.cons rfl (.cons rfl (.cons rfl (.cons rfl (.nil _))))))) ?_
  refine cd_seq ?_
  refine cd_block ?_
  refine cd_seq ?_
  refine at_freeze_blk (h := 6) (H' := [(4, _)]) 6 rfl (.cons rfl (.nil _)) rfl ?_
  refine cd_region ?_
  refine st (ev_move rfl) rfl rfl rfl ?_
  refine st (ev_neq rfl rfl) rfl rfl rfl ?_
  refine st (ev_assign rfl) rfl rfl rfl ?_
  refine op_nil ?_
  refine ax_then ?_
  refine At.regs (L' := [(2, _), (3, _), (4, _), (5, _), (6, _), (14, _)]) (.cons rfl (.cons rfl (.cons rfl (.cons rfl (.cons rfl (.cons rfl (.nil _))))))) ?_
  refine cd_if rfl (fun hc14 => ?_) (fun hc14 => ?_)
  ·
    refine cd_seq ?_
    refine cd_region ?_
    refine st (ev_build_struct ty27 rfl pl27 rfl rfl) rfl rfl rfl ?_
    refine st_store_all 4 ty27 rfl rfl rfl rfl (by first | omega | (simp only [List.length_append, List.length_cons, List.length_nil, List.length_set, List.length_replicate, List.length_take, List.length_drop, ints_length, wr_length, sha_len, node_len, recov_len, Ky.named_len, Ky.keyPub_len, Ky.hashOf_len] <;> omega) | rfl) (by first | (intro u hu; simp at hu; rcases hu with rfl | rfl <;> rfl) | (simp [Value.oneCell'])) (by first | omega | (simp only [List.length_append, List.length_cons, List.length_nil, List.length_set, List.length_replicate, List.length_take, List.length_drop, ints_length, wr_length, sha_len, node_len, recov_len, Ky.named_len, Ky.keyPub_len, Ky.hashOf_len] <;> omega) | rfl) rfl ?_
    refine st (ev_assign rfl) rfl rfl rfl ?_
    refine op_nil ?_
    refine ax_then ?_
    refine At.regs (L' := [(4, _), (5, _), (6, _)]) (.cons rfl (.cons rfl (.cons rfl (.nil _)))) ?_
    refine cd_ret ?_
    refine ax_block_ret ?_
    refine ax_then_ret ?_
    refine rt_cell_tmp (h0 := 4) (.inl rfl) Try.results15 ty27 rfl rfl rfl (by first | omega | (simp only [List.length_append, List.length_cons, List.length_nil, List.length_set, List.length_replicate, List.length_take, List.length_drop, ints_length, wr_length, sha_len, node_len, recov_len, Ky.named_len, Ky.keyPub_len, Ky.hashOf_len] <;> omega) | rfl) rfl ?_
    exact fun w1 sw => ⟨Rt.zeros, ⟨rfl, by rw [Rt.next, if_pos hc14]; rfl, Rt.zeros_one⟩, by rw [Rt.next, if_pos hc14]; rfl, sw.gives (.nil _), Rt.zeros_rd, fun h e hh => (lk_nil hh).elim⟩
  ·
    refine cd_seq ?_
    refine cd_region ?_
    refine st (ev_fieldAddr (b := _) Try.underlying27 (f := _) rfl ty3 (by decide) rfl) rfl rfl rfl ?_
    refine st (ld_mem1 (h := 6) ty3 rfl rfl rfl (Nat.zero_add _).symm rfl) rfl rfl rfl ?_
    refine st (ev_sub64 rfl rfl (by omega) (by omega)) rfl rfl rfl ?_
    refine st (ev_fieldAddr (b := _) Try.underlying27 (f := _) rfl ty3 (by decide) rfl) rfl rfl rfl ?_
    refine st (ld_mem1 (h := 2) ty3 rfl rfl rfl (Nat.zero_add _).symm rfl) rfl rfl rfl ?_
    refine st (ev_neq rfl rfl) rfl rfl rfl ?_
    refine st (ev_assign rfl) rfl rfl rfl ?_
    refine op_nil ?_
    refine ax_then ?_
    refine At.regs (L' := [(2, _), (3, _), (4, _), (5, _), (6, _), (18, _)]) (.cons rfl (.cons rfl (.cons rfl (.cons rfl (.cons rfl (.cons rfl (.nil _))))))) ?_
    refine cd_if rfl (fun hc18 => ?_) (fun hc18 => ?_)
    ·
      refine cd_seq ?_
      refine cd_region ?_
      refine st (ev_build_struct ty27 rfl pl27 rfl rfl) rfl rfl rfl ?_
      refine st_store_all 4 ty27 rfl rfl rfl rfl (by first | omega | (simp only [List.length_append, List.length_cons, List.length_nil, List.length_set, List.length_replicate, List.length_take, List.length_drop, ints_length, wr_length, sha_len, node_len, recov_len, Ky.named_len, Ky.keyPub_len, Ky.hashOf_len] <;> omega) | rfl) (by first | (intro u hu; simp at hu; rcases hu with rfl | rfl <;> rfl) | (simp [Value.oneCell'])) (by first | omega | (simp only [List.length_append, List.length_cons, List.length_nil, List.length_set, List.length_replicate, List.length_take, List.length_drop, ints_length, wr_length, sha_len, node_len, recov_len, Ky.named_len, Ky.keyPub_len, Ky.hashOf_len] <;> omega) | rfl) rfl ?_
      refine st (ev_assign rfl) rfl rfl rfl ?_
      refine op_nil ?_
      refine ax_then ?_
      refine At.regs (L' := [(4, _), (5, _), (6, _)]) (.cons rfl (.cons rfl (.cons rfl (.nil _)))) ?_
      refine cd_ret ?_
      refine ax_block_ret ?_
      refine ax_then_ret ?_
      refine rt_cell_tmp (h0 := 4) (.inl rfl) Try.results15 ty27 rfl rfl rfl (by first | omega | (simp only [List.length_append, List.length_cons, List.length_nil, List.length_set, List.length_replicate, List.length_take, List.length_drop, ints_length, wr_length, sha_len, node_len, recov_len, Ky.named_len, Ky.keyPub_len, Ky.hashOf_len] <;> omega) | rfl) rfl ?_
      exact fun w1 sw => ⟨Rt.zeros, ⟨rfl, by rw [Rt.next, if_neg hc14, if_pos hc18]; rfl, Rt.zeros_one⟩, by rw [Rt.next, if_neg hc14, if_pos hc18]; rfl, sw.gives (.nil _), Rt.zeros_rd, fun h e hh => (lk_nil hh).elim⟩
    ·
      refine cd_seq ?_
      refine cd_region ?_
      refine st (ld_mem_all (h := 3) ty31 rfl rfl rfl rfl) rfl rfl rfl ?_
      refine st (ev_fieldAddr (b := _) Try.underlying27 (f := _) rfl ty25 (by decide) rfl) rfl rfl rfl ?_
      refine st (ev_indexAddr_arr Try.underlying25 ty24 rfl rfl (by omega) (by omega)) rfl rfl rfl ?_
      refine st (ld_mem (h := 2) (k := 2) ty24 rfl rfl rfl rfl (by rw [Rt.rootC_len _ _ (by omega)]; decide)) rfl rfl rfl ?_
      refine at_eq (i := 30) (v' := .agg (List.toArray [(l.getD 0 Rt.rol0).1, .int .i64 (l.getD 0 Rt.rol0).2.need])) rfl (congrArg (fun x => Value.agg (List.toArray x)) (Rt.rootC_rol0 _ _ hl)) ?_
      refine st_callv has34 rfl (fun w1 sw => rmeets_any pb mv (l.getD 0 Rt.rol0).1 (l.getD 0 Rt.rol0).2.need body ms (l.getD 0 Rt.rol0).2.ks w1 (sw.sl_rd (h := 22) rfl) (by omega) ha hml (sw.sl_rd (h := 21) rfl) (fun x hx => (Qm.Keeps.of sw).mrd (hmr x hx)) hk1 (by omega) (sw.row (i := 200) rfl (Rt.rowsR_mem (by omega)))) rfl rfl ?_
      refine st (ev_not_if rfl) rfl rfl rfl ?_
      refine st (ev_move rfl) rfl rfl rfl ?_
      refine at_split_if (i := 33) rfl (fun hg33 => ?_) (fun hg33 => ?_)
      ·
        refine st_skip rfl rfl rfl ?_
        refine st_skip rfl rfl rfl ?_
        refine st_skip rfl rfl rfl ?_
        refine st_skip rfl rfl rfl ?_
        refine st_skip rfl rfl rfl ?_
        refine st_skip rfl rfl rfl ?_
        refine st (ev_pick_t rfl rfl) rfl rfl rfl ?_
        refine st (ev_assign rfl) rfl rfl rfl ?_
        refine op_nil ?_
        refine ax_then ?_
        refine At.regs (L' := [(4, _), (5, _), (6, _), (26, _)]) (.cons rfl (.cons rfl (.cons rfl (.cons rfl (.nil _))))) ?_
        refine cd_true rfl ?_
        refine cd_seq ?_
        refine cd_region ?_
        refine st (ev_build_struct ty27 rfl pl27 rfl rfl) rfl rfl rfl ?_
        refine st_store_all 4 ty27 rfl rfl rfl rfl (by first | omega | (simp only [List.length_append, List.length_cons, List.length_nil, List.length_set, List.length_replicate, List.length_take, List.length_drop, ints_length, wr_length, sha_len, node_len, recov_len, Ky.named_len, Ky.keyPub_len, Ky.hashOf_len] <;> omega) | rfl) (by first | (intro u hu; simp at hu; rcases hu with rfl | rfl <;> rfl) | (simp [Value.oneCell'])) (by first | omega | (simp only [List.length_append, List.length_cons, List.length_nil, List.length_set, List.length_replicate, List.length_take, List.length_drop, ints_length, wr_length, sha_len, node_len, recov_len, Ky.named_len, Ky.keyPub_len, Ky.hashOf_len] <;> omega) | rfl) rfl ?_
        refine st (ev_assign rfl) rfl rfl rfl ?_
        refine op_nil ?_
        refine ax_then ?_
        refine At.regs (L' := [(4, _), (5, _), (6, _)]) (.cons rfl (.cons rfl (.cons rfl (.nil _)))) ?_
        refine cd_ret ?_
        refine ax_block_ret ?_
        refine ax_then_ret ?_
        refine rt_cell_tmp (h0 := 4) (.inl rfl) Try.results15 ty27 rfl rfl rfl (by first | omega | (simp only [List.length_append, List.length_cons, List.length_nil, List.length_set, List.length_replicate, List.length_take, List.length_drop, ints_length, wr_length, sha_len, node_len, recov_len, Ky.named_len, Ky.keyPub_len, Ky.hashOf_len] <;> omega) | rfl) rfl ?_
        exact fun w1 sw => ⟨Rt.zeros, ⟨rfl, by rw [Rt.next, if_neg hc14, if_neg hc18, if_pos (by rw [e1, e2]; exact .inl hg33)]; rfl, Rt.zeros_one⟩, by rw [Rt.next, if_neg hc14, if_neg hc18, if_pos (by rw [e1, e2]; exact .inl hg33)]; rfl, sw.gives (.nil _), Rt.zeros_rd, fun h e hh => (lk_nil hh).elim⟩
      ·
        refine st (ld_mem_all (h := 3) ty31 rfl rfl rfl rfl) rfl rfl rfl ?_
        refine st (ev_fieldAddr (b := _) Try.underlying27 (f := _) rfl ty25 (by decide) rfl) rfl rfl rfl ?_
        refine st (ev_indexAddr_arr Try.underlying25 ty24 rfl rfl (by omega) (by omega)) rfl rfl rfl ?_
        refine st (ld_mem (h := 6) (k := 2) ty24 rfl rfl rfl rfl (by rw [Rt.rootC_len _ _ (by omega)]; decide)) rfl rfl rfl ?_
        refine at_eq (i := 37) (v' := .agg (List.toArray [(l'.getD 0 Rt.rol0).1, .int .i64 (l'.getD 0 Rt.rol0).2.need])) rfl (congrArg (fun x => Value.agg (List.toArray x)) (Rt.rootC_rol0 _ _ hx11.1)) ?_
        refine st_callv has34 rfl (fun w1 sw => rmeets_any pb mv (l'.getD 0 Rt.rol0).1 (l'.getD 0 Rt.rol0).2.need body ms (l'.getD 0 Rt.rol0).2.ks w1 (sw.sl_rd (h := 22) rfl) (by omega) ha hml (sw.sl_rd (h := 21) rfl) (fun x hx => (Qm.Keeps.of sw).mrd (hmr x hx)) hk3 (by omega) (sw.row (i := 201) rfl (Rt.rowsR_mem (by omega)))) rfl rfl ?_
        refine st (ev_not_if rfl) rfl rfl rfl ?_
        refine st (ev_pick_f rfl rfl) rfl rfl rfl ?_
        refine st (ev_assign rfl) rfl rfl rfl ?_
        refine op_nil ?_
        refine ax_then ?_
        refine At.regs (L' := [(4, _), (5, _), (6, _), (26, _)]) (.cons rfl (.cons rfl (.cons rfl (.cons rfl (.nil _))))) ?_
        refine cd_if rfl (fun hc26 => ?_) (fun hc26 => ?_)
        ·
          refine cd_seq ?_
          refine cd_region ?_
          refine st (ev_build_struct ty27 rfl pl27 rfl rfl) rfl rfl rfl ?_
          refine st_store_all 4 ty27 rfl rfl rfl rfl (by first | omega | (simp only [List.length_append, List.length_cons, List.length_nil, List.length_set, List.length_replicate, List.length_take, List.length_drop, ints_length, wr_length, sha_len, node_len, recov_len, Ky.named_len, Ky.keyPub_len, Ky.hashOf_len] <;> omega) | rfl) (by first | (intro u hu; simp at hu; rcases hu with rfl | rfl <;> rfl) | (simp [Value.oneCell'])) (by first | omega | (simp only [List.length_append, List.length_cons, List.length_nil, List.length_set, List.length_replicate, List.length_take, List.length_drop, ints_length, wr_length, sha_len, node_len, recov_len, Ky.named_len, Ky.keyPub_len, Ky.hashOf_len] <;> omega) | rfl) rfl ?_
          refine st (ev_assign rfl) rfl rfl rfl ?_
          refine op_nil ?_
          refine ax_then ?_
          refine At.regs (L' := [(4, _), (5, _), (6, _)]) (.cons rfl (.cons rfl (.cons rfl (.nil _)))) ?_
          refine cd_ret ?_
          refine ax_block_ret ?_
          refine ax_then_ret ?_
          refine rt_cell_tmp (h0 := 4) (.inl rfl) Try.results15 ty27 rfl rfl rfl (by first | omega | (simp only [List.length_append, List.length_cons, List.length_nil, List.length_set, List.length_replicate, List.length_take, List.length_drop, ints_length, wr_length, sha_len, node_len, recov_len, Ky.named_len, Ky.keyPub_len, Ky.hashOf_len] <;> omega) | rfl) rfl ?_
          exact fun w1 sw => ⟨Rt.zeros, ⟨rfl, by rw [Rt.next, if_neg hc14, if_neg hc18, if_pos (by rw [e1, e2]; exact .inr hc26)]; rfl, Rt.zeros_one⟩, by rw [Rt.next, if_neg hc14, if_neg hc18, if_pos (by rw [e1, e2]; exact .inr hc26)]; rfl, sw.gives (.nil _), Rt.zeros_rd, fun h e hh => (lk_nil hh).elim⟩
        ·
          refine cd_skip ?_
          refine ax_block ?_
          refine ax_then ?_
          refine At.regs (L' := [(4, _), (5, _), (6, _)]) (.cons rfl (.cons rfl (.cons rfl (.nil _)))) ?_
          refine cd_seq ?_
          refine cd_region ?_
          refine st (ld_mem_all (h := 6) ty27 rfl rfl rfl (Rt.rootC_len _ _ (by omega))) rfl rfl rfl ?_
          refine st_store_all 4 ty27 rfl rfl rfl rfl (Rt.rootC_len _ _ (by omega)) (Rt.rootC_one _ _ hx11.2.2) rfl rfl ?_
          refine st (ev_assign rfl) rfl rfl rfl ?_
          refine op_nil ?_
          refine ax_then ?_
          refine At.regs (L' := [(4, _), (5, _)]) (.cons rfl (.cons rfl (.nil _))) ?_
          refine cd_ret ?_
          have hd : (Rt.next (⟨ver, exp, Rt.kds l⟩ : Rt.RT) body ms) = ((Rt.dec body).1, 0) := by rw [Rt.next, if_neg hc14, if_neg hc18, if_neg (by rw [e1, e2]; exact fun hh => hh.elim hg33 hc26)]
          refine rt_cell_tmp (h0 := 4) (.inl rfl) Try.results15 ty27 rfl rfl rfl (Rt.rootC_len _ _ (by omega)) rfl ?_
          exact fun w1 sw => ⟨l', ⟨hx11.1, by rw [hd]; exact hx11.2.1, hx11.2.2⟩, by rw [hd], sw.gives (.nil _), (fun y hy => ⟨sw.rd 201 _ rfl y hy, hf11 y hy⟩), fun h e hh => (lk_nil hh).elim⟩
end Go.Proofs.Ytgfnmolbagilmaa

namespace Go.Proofs.Ytgfnmolbagilmaa.Fw
open Go Go.RowKit Go.Proofs.Ytgfnmolbagilmaa
section
variable {K : Act → World → Prop} {E : Env} {L : List (Nat × Value)} {H : List (Nat × Ent)} {F : List (Nat × FE)}
/-- one of the rows, by itself -/
theorem at_rowsl {i sz : Nat} {v : Value} {l : List Value} {rs : List (Value × Nat × List Value)} (j : Nat) (hf : lk F i = some (.rows rs)) (hx : (v, sz, l) ∈ rs) (k : At K E L H ((j, .sl v sz l) :: F)) : At K E L H F := fun a w fa sw =>
  k a w fa (sw.read j (f := .sl v sz l) (sw.rd _ _ hf _ hx) (fun h' e hh b hb => sw.off _ _ _ _ hf hh b hb _ hx))
end
end Go.Proofs.Ytgfnmolbagilmaa.Fw
namespace Go.Proofs.Ytgfnmolbagilmaa.Rt
open Go Fw Sha Ky Go.Proofs.Ytgfnmolbagilmaa
set_option linter.unusedSimpArgs false
set_option linter.unusedVariables false
instance instKD : DecidableEq KD := fun a b => decidable_of_iff (a.ks = b.ks ∧ a.need = b.need) ⟨fun h => by cases a; cases b; simp_all, fun h => by rw [h]; exact ⟨rfl, rfl⟩⟩
instance instRT : DecidableEq RT := fun a b => decidable_of_iff (a.ver = b.ver ∧ a.exp = b.exp ∧ a.roles = b.roles) ⟨fun h => by cases a; cases b; simp_all, fun h => by rw [h]; exact ⟨rfl, rfl, rfl⟩⟩
theorem kds_getD (l : List Rol) (j : Nat) : (kds l).getD j ⟨[], 0⟩ = (l.getD j rol0).2 := by
  rw [kds, List.getD_eq_getElem?_getD, List.getD_eq_getElem?_getD, List.getElem?_map]
  cases l[j]? <;> rfl
theorem kds_at {a b : List Rol} (h : kds a = kds b) (j : Nat) : (a.getD j rol0).2 = (b.getD j rol0).2 := by
  rw [← kds_getD, ← kds_getD, h]
theorem kds_ext {a b : List Rol} (ha : a.length = 4) (hb : b.length = 4) (h : ∀ j, j < 4 → (a.getD j rol0).2 = (b.getD j rol0).2) : kds a = kds b := by
  match a, ha, b, hb with
  | [a0, a1, a2, a3], _, [b0, b1, b2, b3], _ =>
    have h0 : a0.2 = b0.2 := h 0 (by decide)
    have h1 : a1.2 = b1.2 := h 1 (by decide)
    have h2 : a2.2 = b2.2 := h 2 (by decide)
    have h3 : a3.2 = b3.2 := h 3 (by decide)
    simp [kds, h0, h1, h2, h3]
theorem kds_take (l : List Rol) {i : Nat} (hi : i < l.length) : kds (l.take (i + 1)) = kds (l.take i) ++ [(l.getD i rol0).2] := by
  rw [List.take_succ_eq_append_getElem hi, kds_snoc, List.getD_eq_getElem?_getD, List.getElem?_eq_getElem hi]
  rfl
theorem set_mid {α : Type} (a : List α) (x v : α) (b : List α) : (a ++ x :: b).set a.length v = a ++ v :: b := by
  induction a with
  | nil => rfl
  | cons y a ih => simp [ih]
theorem rolsC_mid (m : List Rol) (x : Rol) (t : List Rol) : rolsC (m ++ x :: t) = rolsC m ++ x.1 :: (.int .i64 x.2.need :: rolsC t) := by simp [rolsC, rolC]
/-- the first i slots are laid anew -/
theorem rootC_put (ver exp : Int) {m l : List Rol} {i : Nat} (hm : m.length = i) (hi : i < l.length) (hl : l.length = 4) (v : Value) : (rootC ver exp (m ++ l.drop i)).set (2 + i * 2) v = rootC ver exp ((m ++ [(v, (l.getD i rol0).2)]) ++ l.drop (i + 1)) := by
  have e1 : l.getD i rol0 = l[i] := by rw [List.getD_eq_getElem?_getD, List.getElem?_eq_getElem hi]; rfl
  have e2 : rootC ver exp (m ++ l.drop i) = ([.int .i64 ver, .int .i64 exp] ++ rolsC m) ++ l[i].1 :: (.int .i64 l[i].2.need :: (rolsC (l.drop (i + 1)) ++ zC (4 - (m ++ l.drop i).length))) := by
    have e0 : rolsC (m ++ l.drop i) = rolsC m ++ l[i].1 :: (.int .i64 l[i].2.need :: rolsC (l.drop (i + 1))) := by
      rw [List.drop_eq_getElem_cons hi]
      exact rolsC_mid m l[i] _
    rw [rootC, e0]
    simp only [List.append_assoc, List.cons_append]
  have e3 : ([Value.int .i64 ver, .int .i64 exp] ++ rolsC m).length = 2 + i * 2 := by rw [List.length_append, rolsC_len, hm]; rfl
  have e4 : (m ++ l.drop i).length = 4 := by rw [List.length_append, List.length_drop]; omega
  have e5 : ((m ++ [(v, l[i].2)]) ++ l.drop (i + 1)).length = 4 := by simp; omega
  rw [e2, ← e3, set_mid, e1]
  show _ = [Value.int .i64 ver, .int .i64 exp] ++ (rolsC ((m ++ [(v, l[i].2)]) ++ l.drop (i + 1)) ++ zC (4 - ((m ++ [(v, l[i].2)]) ++ l.drop (i + 1)).length))
  rw [e4, e5]
  simp [rolsC, rolC]
theorem rootC_ks (ver exp : Int) {l : List Rol} {i : Nat} (hi : i < l.length) : (rootC ver exp l)[2 + i * 2]? = some (l.getD i rol0).1 := by
  have h := rootC_get ver exp hi
  have e : (((rootC ver exp l).drop (2 + i * 2)).take 2)[0]? = some (l.getD i rol0).1 := by rw [h]; rfl
  rwa [List.getElem?_take, if_pos (by decide), List.getElem?_drop, Nat.add_zero] at e
def cntR (l : List KD) : Nat := (l.map fun k => k.ks.length).sum
theorem cntR_snoc (l : List Rol) {i : Nat} (hi : i < l.length) : cntR (kds (l.take (i + 1))) = cntR (kds (l.take i)) + (l.getD i rol0).2.ks.length := by
  rw [List.take_succ_eq_append_getElem hi, kds_snoc, cntR, List.map_append, List.sum_append, List.getD_eq_getElem?_getD, List.getElem?_eq_getElem hi]
  simp [cntR]
theorem cntR_le {l : List KD} {k : KD} (h : k ∈ l) : k.ks.length ≤ cntR l := by
  induction l with
  | nil => cases h
  | cons x l ih =>
    have e : cntR (x :: l) = x.ks.length + cntR l := by simp [cntR]
    rw [e]
    rcases List.mem_cons.1 h with rfl | h
    · omega
    · have := ih h; omega
theorem cntR_take {l : List Rol} {M : Nat} (h : ∀ k, k ∈ kds l → k.ks.length ≤ M) : ∀ i, i ≤ l.length → cntR (kds (l.take i)) ≤ i * M
  | 0, _ => by simp [cntR, kds]
  | i + 1, hi => by
    rw [cntR_snoc l (by omega), Nat.succ_mul]
    have h1 := cntR_take h i (by omega)
    have h2 := h _ (kds_get (l := l) (i := i) (by omega))
    omega
theorem eflat_at {es : List Ev} {i : Nat} (hi : i < es.length) : (eflat es)[i * 2]? = some es[i].pb ∧ (eflat es)[i * 2 + 1]? = some es[i].mv := by
  have h := eflat_get hi
  constructor
  · have e : (((eflat es).drop (i * 2)).take 2)[0]? = some es[i].pb := by rw [h]; rfl
    rwa [List.getElem?_take, if_pos (by decide), List.getElem?_drop, Nat.add_zero] at e
  · have e : (((eflat es).drop (i * 2)).take 2)[1]? = some es[i].mv := by rw [h]; rfl
    rwa [List.getElem?_take, if_pos (by decide), List.getElem?_drop] at e
theorem erows_pb {es : List Ev} {i : Nat} (hi : i < es.length) : (es[i].pb, 1, ints .u8 es[i].body) ∈ erows es := List.mem_flatMap.2 ⟨es[i], List.getElem_mem hi, by simp [erow]⟩
theorem erows_mv {es : List Ev} {i : Nat} (hi : i < es.length) : (es[i].mv, 35, Qm.mflat es[i].ms) ∈ erows es := List.mem_flatMap.2 ⟨es[i], List.getElem_mem hi, by simp [erow]⟩
theorem erows_ms {es : List Ev} {i : Nat} (hi : i < es.length) : ∀ y, y ∈ Qm.mrows es[i].ms → y ∈ erows es := fun y hy => List.mem_flatMap.2 ⟨es[i], List.getElem_mem hi, List.mem_cons_of_mem _ (List.mem_cons_of_mem _ hy)⟩
end Go.Proofs.Ytgfnmolbagilmaa.Rt

namespace Go.Proofs.Ytgfnmolbagilmaa
open Go Go.RowKit Fw
open Sha
open Ots
open Mk
set_option linter.unusedVariables false
set_option linter.unusedSimpArgs false
set_option maxRecDepth 20000 in
set_option maxHeartbeats 2000000 in
theorem samekeys_any (pa pb : Value) (na nb : Int) (a b : List (List Int)) (w : World) (ha : H32 a) (hb : H32 b) (hal : a.length ≤ 140737488352000) (hbl : b.length ≤ 140737488352000) (h : Rd w pa 32 (flat a)) (h' : Rd w pb 32 (flat b)) : Calls Try.prog 35 #[.agg (List.toArray [pa, .int .i64 na]), .agg (List.toArray [pb, .int .i64 nb])] w (PostV w (.bool (decide ((⟨a, na⟩ : Rt.KD) = ⟨b, nb⟩)))) := by
  refine calls_at (vs := [.agg (List.toArray [pa, .int .i64 na]), .agg (List.toArray [pb, .int .i64 nb])]) (X := []) (H := []) (F := [(21, .sl (pb) 32 (flat (b))), (20, .sl (pa) 32 (flat (a)))]) 17 Try.func35 rfl rfl rfl ((Sat.rd0 20 h).more 21 h') ?_
  refine cd_seq ?_
  refine cd_region ?_
  refine st_box (h := 2) rfl rfl rfl rfl (fun b2 => ?_)
  refine st_box (h := 3) rfl rfl rfl rfl (fun b3 => ?_)
  refine st (ev_assign rfl) rfl rfl rfl ?_
  refine op_nil ?_
  refine ax_then ?_
  refine At.regs (L' := [(2, _), (3, _), (4, _)]) (.cons rfl (.cons rfl (.cons rfl (.nil _)))) ?_
  refine cd_seq ?_
  refine cd_region ?_
  refine st (ev_fieldAddr (b := _) Try.underlying24 (f := _) rfl ty3 (by decide) rfl) rfl rfl rfl ?_
  refine st (ld_blk1 (h := 2) ty3 rfl rfl rfl rfl) rfl rfl rfl ?_
  refine st (ev_fieldAddr (b := _) Try.underlying24 (f := _) rfl ty3 (by decide) rfl) rfl rfl rfl ?_
  refine st (ld_blk1 (h := 3) ty3 rfl rfl rfl rfl) rfl rfl rfl ?_
  refine st (ev_eql rfl rfl) rfl rfl rfl ?_
  refine st (ev_move rfl) rfl rfl rfl ?_
  refine at_split_if (i := 10) rfl (fun hg10 => ?_) (fun hg10 => ?_)
  ·
    refine st (ev_fieldAddr (b := _) Try.underlying24 (f := _) rfl ty22 (by decide) rfl) rfl rfl rfl ?_
    refine st (ld_blk1 (h := 2) ty22 rfl rfl rfl rfl) rfl rfl rfl ?_
    refine st (ev_fieldAddr (b := _) Try.underlying24 (f := _) rfl ty22 (by decide) rfl) rfl rfl rfl ?_
    refine st (ld_blk1 (h := 3) ty22 rfl rfl rfl rfl) rfl rfl rfl ?_
    refine st_callv has65 rfl (fun w1 sw => hashes_any pa pb a b w1 ha hb hal hbl (sw.sl_rd (h := 20) rfl) (sw.sl_rd (h := 21) rfl)) rfl rfl ?_
    refine st (ev_pick_t rfl rfl) rfl rfl rfl ?_
    refine st (ev_assign rfl) rfl rfl rfl ?_
    refine op_nil ?_
    refine ax_then ?_
    refine At.regs (L' := [(4, _)]) (.cons rfl (.nil _)) ?_
    refine cd_ret ?_
    refine rt_tmp (.inl rfl) Try.results35 rfl ?_
    exact fun w1 sw => ⟨congrArg (fun b => Ending.returned (Value.bool b)) (by first | exact decide_eq_decide.2 ⟨fun hh => by rw [hg10, hh], fun hh => (Rt.KD.mk.inj hh).1⟩ | exact (decide_eq_false (fun hh => hg10 (Rt.KD.mk.inj hh).2)).symm), sw.gives (.nil _)⟩
  ·
    refine st_skip rfl rfl rfl ?_
    refine st_skip rfl rfl rfl ?_
    refine st_skip rfl rfl rfl ?_
    refine st_skip rfl rfl rfl ?_
    refine st_skip rfl rfl rfl ?_
    refine st (ev_pick_f rfl rfl) rfl rfl rfl ?_
    refine st (ev_assign rfl) rfl rfl rfl ?_
    refine op_nil ?_
    refine ax_then ?_
    refine At.regs (L' := [(4, _)]) (.cons rfl (.nil _)) ?_
    refine cd_ret ?_
    refine rt_tmp (.inl rfl) Try.results35 rfl ?_
    exact fun w1 sw => ⟨congrArg (fun b => Ending.returned (Value.bool b)) (by first | exact decide_eq_decide.2 ⟨fun hh => by rw [hg10, hh], fun hh => (Rt.KD.mk.inj hh).1⟩ | exact (decide_eq_false (fun hh => hg10 (Rt.KD.mk.inj hh).2)).symm), sw.gives (.nil _)⟩
set_option maxRecDepth 20000 in
set_option maxHeartbeats 4000000 in
theorem sameroot_any (va xa vb xb : Int) (la lb : List Rt.Rol) (w : World) (hla : la.length = 4) (hlb : lb.length = 4) (ha : Rt.RTok (⟨va, xa, Rt.kds la⟩ : Rt.RT)) (hb : Rt.RTok (⟨vb, xb, Rt.kds lb⟩ : Rt.RT)) (h : ∀ y, y ∈ Rt.rowsR la → Rd w y.1 y.2.1 y.2.2) (h' : ∀ y, y ∈ Rt.rowsR lb → Rd w y.1 y.2.1 y.2.2) : Calls Try.prog 16 #[.agg (List.toArray (Rt.rootC va xa la)), .agg (List.toArray (Rt.rootC vb xb lb))] w (PostV w (.bool (decide ((⟨va, xa, Rt.kds la⟩ : Rt.RT) = (⟨vb, xb, Rt.kds lb⟩ : Rt.RT))))) := by
  refine calls_at (vs := [.agg (List.toArray (Rt.rootC va xa la)), .agg (List.toArray (Rt.rootC vb xb lb))]) (X := []) (H := []) (F := [(201, .rows (Rt.rowsR lb)), (200, .rows (Rt.rowsR la))]) 32 Try.func16 rfl rfl rfl (((Sat.start0 w).read (f := .rows (Rt.rowsR la)) 200 h off_nil).read (f := .rows (Rt.rowsR lb)) 201 h' off_nil) ?_
  refine cd_seq ?_
  refine cd_region ?_
  refine st_box (h := 2) rfl rfl rfl rfl (fun b2 => ?_)
  refine st_box (h := 3) rfl rfl rfl rfl (fun b3 => ?_)
  refine st (ev_assign rfl) rfl rfl rfl ?_
  refine op_nil ?_
  refine ax_then ?_
  refine At.regs (L' := [(2, _), (3, _), (4, _)]) (.cons rfl (.cons rfl (.cons rfl (.nil _)))) ?_
  refine cd_seq ?_
  refine cd_seq ?_
  refine at_freeze_blk (h := 2) (H' := [(3, _)]) 2 rfl (.cons rfl (.nil _)) rfl ?_
  refine at_freeze_blk (h := 3) (H' := []) 3 rfl (.nil _) rfl ?_
  refine cd_region ?_
  refine st (ev_assign rfl) rfl rfl rfl ?_
  refine op_nil ?_
  refine ax_then ?_
  refine At.regs (L' := [(2, _), (3, _), (4, _), (5, _)]) (.cons rfl (.cons rfl (.cons rfl (.cons rfl (.nil _))))) ?_
  refine cd_block ?_
  refine cd_loop (ι := Nat) (fun i => i ≤ 4 ∧ ∀ j, j < i → (la.getD j Rt.rol0).2 = (lb.getD j Rt.rol0).2) (fun i => 4 - i)
      (fun i => [(2, .pointer (some ⟨b2, 0, none⟩)), (3, .pointer (some ⟨b3, 0, none⟩)), (5, .int .i64 (i : Int))])
      (fun i => [])
      (fun i => [(2, .mem b2 0 (Rt.rootC va xa la)), (3, .mem b3 0 (Rt.rootC vb xb lb)), (200, .rows (Rt.rowsR la)), (201, .rows (Rt.rowsR lb))])
      0 (⟨by omega, fun j hj => by omega⟩) (.cons rfl (.cons rfl (.cons rfl (.nil _)))) (.nil _) (.cons rfl (.cons rfl (.cons rfl (.cons rfl (.nil _))))) (fun i hi => ?_)
  have hi1 := hi.1
  have e0 : (i : Int).toNat = i := by omega
  refine cd_seq ?_
  refine cd_seq ?_
  refine cd_region ?_
  refine st (ev_move rfl) rfl rfl rfl ?_
  refine st (ev_lss rfl rfl) rfl rfl rfl ?_
  refine op_nil ?_
  refine ax_then ?_
  refine At.regs (L' := [(2, _), (3, _), (5, _), (6, _), (7, _)]) (.cons rfl (.cons rfl (.cons rfl (.cons rfl (.cons rfl (.nil _)))))) ?_
  refine cd_if rfl (fun hc7 => ?_) (fun hc7 => ?_)
  ·
    have hlt : i < 4 := by omega
    have hk1 := ha.h32 _ (Rt.kds_get (l := la) (i := i) (by omega))
    have hk2 := hb.h32 _ (Rt.kds_get (l := lb) (i := i) (by omega))
    have hk3 := ha.few _ (Rt.kds_get (l := la) (i := i) (by omega))
    have hk4 := hb.few _ (Rt.kds_get (l := lb) (i := i) (by omega))
    refine cd_skip ?_
    refine ax_then ?_
    refine At.regs (L' := [(2, _), (3, _), (5, _), (6, _), (7, _)]) (.cons rfl (.cons rfl (.cons rfl (.cons rfl (.cons rfl (.nil _)))))) ?_
    refine cd_seq ?_
    refine cd_block ?_
    refine cd_seq ?_
    refine cd_mix hmix ?_
    refine mx (i := 0) rfl (by decide +kernel) (by decide +kernel) (by decide +kernel) rfl (fun w0 => ev_move rfl) rfl rfl (Sub.refl _) ?_
    refine mx (i := 1) rfl (by decide +kernel) (by decide +kernel) (by decide +kernel) rfl (fun w0 => ev_fieldAddr (b := _) Try.underlying27 (f := _) rfl ty25 (by decide) rfl) rfl rfl (Sub.refl _) ?_
    refine mx (i := 2) rfl (by decide +kernel) (by decide +kernel) (by decide +kernel) rfl (fun w0 => ev_indexAddr_arr Try.underlying25 ty24 rfl rfl (by omega) (by omega)) rfl rfl (Sub.refl _) ?_
    refine mx (i := 3) rfl (by decide +kernel) (by decide +kernel) (by decide +kernel) rfl (fun w0 => ld_mem (h := 2) (k := 2 + i * 2) ty24 rfl rfl rfl (by rw [e0]; show 0 + 2 + i * 2 = 0 + (2 + i * 2); omega) (by rw [Rt.rootC_len _ _ (by omega)]; omega)) rfl rfl (Sub.refl _) ?_
    refine at_eq (i := 13) (v' := .agg (List.toArray [(la.getD i Rt.rol0).1, .int .i64 (la.getD i Rt.rol0).2.need])) rfl (congrArg (fun x => Value.agg (List.toArray x)) (Rt.rootC_get _ _ (by omega))) ?_
    refine mx (i := 4) rfl (by decide +kernel) (by decide +kernel) (by decide +kernel) rfl (fun w0 => ev_move rfl) rfl rfl (Sub.refl _) ?_
    refine mx (i := 5) rfl (by decide +kernel) (by decide +kernel) (by decide +kernel) rfl (fun w0 => ev_fieldAddr (b := _) Try.underlying27 (f := _) rfl ty25 (by decide) rfl) rfl rfl (Sub.refl _) ?_
    refine mx (i := 6) rfl (by decide +kernel) (by decide +kernel) (by decide +kernel) rfl (fun w0 => ev_indexAddr_arr Try.underlying25 ty24 rfl rfl (by omega) (by omega)) rfl rfl (Sub.refl _) ?_
    refine mx (i := 7) rfl (by decide +kernel) (by decide +kernel) (by decide +kernel) rfl (fun w0 => ld_mem (h := 3) (k := 2 + i * 2) ty24 rfl rfl rfl (by rw [e0]; show 0 + 2 + i * 2 = 0 + (2 + i * 2); omega) (by rw [Rt.rootC_len _ _ (by omega)]; omega)) rfl rfl (Sub.refl _) ?_
    refine at_eq (i := 17) (v' := .agg (List.toArray [(lb.getD i Rt.rol0).1, .int .i64 (lb.getD i Rt.rol0).2.need])) rfl (congrArg (fun x => Value.agg (List.toArray x)) (Rt.rootC_get _ _ (by omega))) ?_
    refine mx_one (i := 8) (by decide +kernel) (Sub.refl _) ?_
    refine wo (i := 8) rfl ?_
    refine st_callv has35 rfl (fun w1 sw => samekeys_any (la.getD i Rt.rol0).1 (lb.getD i Rt.rol0).1 (la.getD i Rt.rol0).2.need (lb.getD i Rt.rol0).2.need (la.getD i Rt.rol0).2.ks (lb.getD i Rt.rol0).2.ks w1 hk1 hk2 (by omega) (by omega) (sw.row (i := 200) rfl (Rt.rowsR_mem (by omega))) (sw.row (i := 201) rfl (Rt.rowsR_mem (by omega)))) rfl rfl ?_
    refine op_nil ?_
    refine ax_then ?_
    refine mx (i := 9) rfl (by decide +kernel) (by decide +kernel) (by decide +kernel) rfl (fun w0 => ev_not_if rfl) rfl rfl (Sub.refl _) ?_
    refine mx_done (by decide +kernel) (Sub.refl _) ?_
    refine ax_then ?_
    refine At.regs (L' := [(2, _), (3, _), (5, _), (6, _), (7, _), (10, _), (11, _), (12, _), (13, _), (14, _), (15, _), (16, _), (17, _), (18, _), (19, _)]) (.cons rfl (.cons rfl (.cons rfl (.cons rfl (.cons rfl (.cons rfl (.cons rfl (.cons rfl (.cons rfl (.cons rfl (.cons rfl (.cons rfl (.cons rfl (.cons rfl (.cons rfl (.nil _)))))))))))))))) ?_
    refine cd_if rfl (fun hc19 => ?_) (fun hc19 => ?_)
    ·
      refine cd_seq ?_
      refine cd_region ?_
      refine st (ev_assign rfl) rfl rfl rfl ?_
      refine op_nil ?_
      refine ax_then ?_
      refine At.regs (L' := [(2, _), (3, _), (4, _), (5, _), (6, _), (7, _), (10, _), (11, _), (12, _), (13, _), (14, _), (15, _), (16, _), (17, _), (18, _), (19, _)]) (.cons rfl (.cons rfl (.cons rfl (.cons rfl (.cons rfl (.cons rfl (.cons rfl (.cons rfl (.cons rfl (.cons rfl (.cons rfl (.cons rfl (.cons rfl (.cons rfl (.cons rfl (.cons rfl (.nil _))))))))))))))))) ?_
      refine cd_ret ?_
      refine ax_block_ret ?_
      refine ax_then_ret ?_
      refine ax_then_ret ?_
      refine ax_block_ret ?_
      refine ax_then_ret ?_
      refine rt_tmp (.inl rfl) Try.results16 rfl ?_
      exact fun w1 sw => ⟨congrArg (fun b => Ending.returned (Value.bool b)) (by exact (decide_eq_false (fun hh => hc19 (Rt.kds_at (Rt.RT.mk.inj hh).2.2 i))).symm), sw.gives (.nil _)⟩
    ·
      refine cd_skip ?_
      refine ax_block ?_
      refine ax_then ?_
      refine At.regs (L' := [(2, _), (3, _), (5, _), (6, _), (7, _), (10, _), (11, _), (12, _), (13, _), (14, _), (15, _), (16, _), (17, _), (18, _), (19, _)]) (.cons rfl (.cons rfl (.cons rfl (.cons rfl (.cons rfl (.cons rfl (.cons rfl (.cons rfl (.cons rfl (.cons rfl (.cons rfl (.cons rfl (.cons rfl (.cons rfl (.cons rfl (.nil _)))))))))))))))) ?_
      refine cd_region ?_
      refine st (ev_move rfl) rfl rfl rfl ?_
      refine st (ev_add64 rfl rfl (by omega) (by omega)) rfl rfl rfl ?_
      refine st (ev_assign rfl) rfl rfl rfl ?_
      refine op_nil ?_
      exact at_again (i + 1) (⟨by omega, fun j hj => (Nat.lt_succ_iff_lt_or_eq.1 hj).elim (hi.2 j) (fun e => by subst e; exact Classical.not_not.1 hc19)⟩) (by omega) (.cons rfl (.cons rfl (.cons rfl (.nil _)))) (.nil _) (.cons rfl (.cons rfl (.cons rfl (.cons rfl (.nil _)))))
  ·
    obtain rfl : i = 4 := by omega
    have hkk := Rt.kds_ext hla hlb hi.2
    refine cd_exit ?_
    refine ax_then_exit ?_
    refine ax_then_exit ?_
    refine ax_block_hit ?_
    refine ax_then ?_
    refine At.regs (L' := [(2, _), (3, _)]) (.cons rfl (.cons rfl (.nil _))) ?_
    refine cd_seq ?_
    refine cd_region ?_
    refine st (ev_fieldAddr (b := _) Try.underlying27 (f := _) rfl ty3 (by decide) rfl) rfl rfl rfl ?_
    refine st (ld_mem1 (h := 2) ty3 rfl rfl rfl (Nat.zero_add _).symm rfl) rfl rfl rfl ?_
    refine st (ev_fieldAddr (b := _) Try.underlying27 (f := _) rfl ty3 (by decide) rfl) rfl rfl rfl ?_
    refine st (ld_mem1 (h := 3) ty3 rfl rfl rfl (Nat.zero_add _).symm rfl) rfl rfl rfl ?_
    refine st (ev_eql rfl rfl) rfl rfl rfl ?_
    refine st (ev_move rfl) rfl rfl rfl ?_
    refine at_split_if (i := 25) rfl (fun hg25 => ?_) (fun hg25 => ?_)
    ·
      refine st (ev_fieldAddr (b := _) Try.underlying27 (f := _) rfl ty3 (by decide) rfl) rfl rfl rfl ?_
      refine st (ld_mem1 (h := 2) ty3 rfl rfl rfl (Nat.zero_add _).symm rfl) rfl rfl rfl ?_
      refine st (ev_fieldAddr (b := _) Try.underlying27 (f := _) rfl ty3 (by decide) rfl) rfl rfl rfl ?_
      refine st (ld_mem1 (h := 3) ty3 rfl rfl rfl (Nat.zero_add _).symm rfl) rfl rfl rfl ?_
      refine st (ev_eql rfl rfl) rfl rfl rfl ?_
      refine st (ev_pick_t rfl rfl) rfl rfl rfl ?_
      refine st (ev_assign rfl) rfl rfl rfl ?_
      refine op_nil ?_
      refine ax_then ?_
      refine At.regs (L' := [(4, _)]) (.cons rfl (.nil _)) ?_
      refine cd_ret ?_
      refine rt_tmp (.inl rfl) Try.results16 rfl ?_
      exact fun w1 sw => ⟨congrArg (fun b => Ending.returned (Value.bool b)) (by exact decide_eq_decide.2 ⟨fun hh => by rw [hg25, hh, hkk], fun hh => (Rt.RT.mk.inj hh).2.1⟩), sw.gives (.nil _)⟩
    ·
      refine st_skip rfl rfl rfl ?_
      refine st_skip rfl rfl rfl ?_
      refine st_skip rfl rfl rfl ?_
      refine st_skip rfl rfl rfl ?_
      refine st_skip rfl rfl rfl ?_
      refine st (ev_pick_f rfl rfl) rfl rfl rfl ?_
      refine st (ev_assign rfl) rfl rfl rfl ?_
      refine op_nil ?_
      refine ax_then ?_
      refine At.regs (L' := [(4, _)]) (.cons rfl (.nil _)) ?_
      refine cd_ret ?_
      refine rt_tmp (.inl rfl) Try.results16 rfl ?_
      exact fun w1 sw => ⟨congrArg (fun b => Ending.returned (Value.bool b)) (by exact (decide_eq_false (fun hh => hg25 (Rt.RT.mk.inj hh).1)).symm), sw.gives (.nil _)⟩
set_option maxRecDepth 20000 in
set_option maxHeartbeats 1000000 in
theorem cloneh_nil (w : World) : Calls Try.prog 66 #[.slice none 0 0] w (Post (ι := Value) w [] (fun _ => True) (fun v => v) (fun v => [(0, .own (v) 55 32 (flat ([])))])) := by
  refine calls_at (vs := [.slice none 0 0]) (X := []) (H := []) (F := []) 8 Try.func66 rfl rfl rfl (Sat.start0 w) ?_
  refine cd_seq ?_
  refine cd_region ?_
  refine st (ev_assign rfl) rfl rfl rfl ?_
  refine at_own_nil 2 55 32 ?_
  refine at_heq (i := 2) (v' := .own (.slice none 0 0) 55 32 (flat [])) rfl rfl ?_
  have hu2 := H32.nil
  refine op_nil ?_
  refine ax_then ?_
  refine At.regs (L' := [(0, _), (2, _)]) (.cons rfl (.cons rfl (.nil _))) ?_
  refine cd_seq ?_
  refine cd_seq ?_
  refine cd_region ?_
  refine st (ev_move rfl) rfl rfl rfl ?_
  refine st (ev_eql_slice_nil Try.underlying22 rfl rfl) rfl rfl rfl ?_
  refine op_nil ?_
  refine ax_then ?_
  refine At.regs (L' := [(0, _), (2, _), (4, _)]) (.cons rfl (.cons rfl (.cons rfl (.nil _)))) ?_
  refine cd_true rfl ?_
  refine cd_seq ?_
  refine cd_region ?_
  refine st (ev_assign rfl) rfl rfl rfl ?_
  refine at_own_nil 2 55 32 ?_
  refine at_heq (i := 2) (v' := .own (.slice none 0 0) 55 32 (flat [])) rfl rfl ?_
  have hu2 := H32.nil
  refine op_nil ?_
  refine ax_then ?_
  refine At.regs (L' := [(0, _), (2, _)]) (.cons rfl (.cons rfl (.nil _))) ?_
  refine cd_ret ?_
  refine ax_then_ret ?_
  refine rt_tmp (.inl rfl) Try.results66 rfl ?_
  exact fun w1 sw => ⟨_, trivial, rfl, (sw.gives (N := [(2, _)]) (.cons rfl (.nil _))).rn 0⟩
set_option maxRecDepth 20000 in
set_option maxHeartbeats 1000000 in
theorem cloneh_some (x : Addr) (n c : Nat) (l : List (List Int)) (w : World) (hu : H32 l) (hl : l.length ≤ 4398046510000) (h : Rd w (.slice (some x) n c) 32 (flat l)) : Calls Try.prog 66 #[.slice (some x) n c] w (Post (ι := Value) w [] (fun _ => True) (fun v => v) (fun v => [(0, .own (v) 55 32 (flat (l)))])) := by
  refine calls_at (vs := [.slice (some x) n c]) (X := []) (H := []) (F := [(0, .sl (.slice (some x) n c) 32 (flat (l)))]) 8 Try.func66 rfl rfl rfl (Sat.rd0 0 h) ?_
  refine cd_seq ?_
  refine cd_region ?_
  refine st (ev_assign rfl) rfl rfl rfl ?_
  refine at_own_nil 2 55 32 ?_
  refine at_heq (i := 2) (v' := .own (.slice none 0 0) 55 32 (flat [])) rfl rfl ?_
  have hu2 := H32.nil
  refine op_nil ?_
  refine ax_then ?_
  refine At.regs (L' := [(0, _), (2, _)]) (.cons rfl (.cons rfl (.nil _))) ?_
  refine cd_seq ?_
  refine cd_seq ?_
  refine cd_region ?_
  refine st (ev_move rfl) rfl rfl rfl ?_
  refine st (ev_eql_slice_nil Try.underlying22 rfl rfl) rfl rfl rfl ?_
  refine op_nil ?_
  refine ax_then ?_
  refine At.regs (L' := [(0, _), (2, _), (4, _)]) (.cons rfl (.cons rfl (.cons rfl (.nil _)))) ?_
  refine cd_false rfl ?_
  refine cd_skip ?_
  refine ax_then ?_
  refine At.regs (L' := [(0, _), (2, _)]) (.cons rfl (.cons rfl (.nil _))) ?_
  refine cd_seq ?_
  refine cd_region ?_
  refine st_buildSlice (h := 5) (cells := []) Try.underlying22 ty55 rfl (by decide) (fill_nil.trans (by simp)) rfl rfl rfl (fun b5 => ?_)
  refine st (ev_move rfl) rfl rfl rfl ?_
  refine st_appendh (h := 5) (l := []) (cs := l) Try.underlying22 Try.underlying22 ty55 rfl rfl rfl rfl (fun w1 sw => sw.sl_rd (h := 0) rfl) H32.nil hu (by simp; omega) (by decide) rfl rfl (fun v7 _ => ?_)
  refine at_heq (i := 5) (v' := .own (v7) 55 32 (flat (l))) rfl (by rw [List.nil_append]) ?_
  refine st (ev_assign rfl) rfl rfl rfl ?_
  refine op_nil ?_
  refine ax_then ?_
  refine At.regs (L' := [(2, _)]) (.cons rfl (.nil _)) ?_
  refine cd_ret ?_
  refine rt_tmp (.inl rfl) Try.results66 rfl ?_
  exact fun w1 sw => ⟨_, trivial, rfl, (sw.gives (N := [(5, _)]) (.cons rfl (.nil _))).rn 0⟩
theorem cloneh_any (p : Value) (l : List (List Int)) (w : World) (hu : H32 l) (hl : l.length ≤ 4398046510000) (h : Rd w p 32 (flat l)) : Calls Try.prog 66 #[p] w (Post (ι := Value) w [] (fun _ => True) (fun v => v) (fun v => [(0, .own (v) 55 32 (flat (l)))])) := by
  have h' := h
  obtain ⟨a, len, cap, rfl, h1, h2, h3, h4⟩ := h
  cases a with
  | some x => exact cloneh_some x len cap l w hu hl h'
  | none =>
    have hc := h3 rfl
    have hn : len = 0 := by omega
    subst hc; subst hn
    have : l = [] := List.length_eq_zero_iff.1 (by rw [flat_len hu] at h1; omega)
    subst this
    exact cloneh_nil w
set_option maxRecDepth 20000 in
set_option maxHeartbeats 2000000 in
theorem many_any (ver exp : Int) (l : List Rt.Rol) (w : World) (hl : l.length = 4) (hu : ∀ k, k ∈ Rt.kds l → H32 k.ks) (hkl : ∀ k, k ∈ Rt.kds l → k.ks.length ≤ 4398046511104) (h : ∀ y, y ∈ Rt.rowsR l → Rd w y.1 y.2.1 y.2.2) : Calls Try.prog 13 #[.agg (List.toArray (Rt.rootC ver exp l))] w (PostV w (.bool (decide ((60 : Int) < (Rt.cntR (Rt.kds l) : Nat))))) := by
  refine calls_at (vs := [.agg (List.toArray (Rt.rootC ver exp l))]) (X := []) (H := []) (F := [(200, .rows (Rt.rowsR l))]) 19 Try.func13 rfl rfl rfl ((Sat.start0 w).read (f := .rows (Rt.rowsR l)) 200 h off_nil) ?_
  refine cd_seq ?_
  refine cd_region ?_
  refine st_box (h := 1) rfl rfl rfl rfl (fun b1 => ?_)
  refine st (ev_assign rfl) rfl rfl rfl ?_
  refine op_nil ?_
  refine ax_then ?_
  refine At.regs (L' := [(1, _), (2, _)]) (.cons rfl (.cons rfl (.nil _))) ?_
  refine cd_seq ?_
  refine at_freeze_blk (h := 1) (H' := []) 1 rfl (.nil _) rfl ?_
  refine cd_region ?_
  refine st (ev_assign rfl) rfl rfl rfl ?_
  refine op_nil ?_
  refine ax_then ?_
  refine At.regs (L' := [(1, _), (2, _), (3, _)]) (.cons rfl (.cons rfl (.cons rfl (.nil _)))) ?_
  refine cd_seq ?_
  refine cd_seq ?_
  refine cd_region ?_
  refine st (ev_assign rfl) rfl rfl rfl ?_
  refine op_nil ?_
  refine ax_then ?_
  refine At.regs (L' := [(1, _), (2, _), (3, _), (4, _)]) (.cons rfl (.cons rfl (.cons rfl (.cons rfl (.nil _))))) ?_
  refine cd_block ?_
  refine at_eq (i := 3) (v' := .int .i64 (Rt.cntR (Rt.kds (l.take 0)) : Nat)) rfl rfl ?_
  refine cd_loop (ι := Nat) (fun i => i ≤ 4) (fun i => 4 - i)
      (fun i => [(1, .pointer (some ⟨b1, 0, none⟩)), (3, .int .i64 (Rt.cntR (Rt.kds (l.take i)) : Nat)), (4, .int .i64 (i : Int))])
      (fun i => [])
      (fun i => [(1, .mem b1 0 (Rt.rootC ver exp l)), (200, .rows (Rt.rowsR l))])
      0 (by omega) (.cons rfl (.cons rfl (.cons rfl (.nil _)))) (.nil _) (.cons rfl (.cons rfl (.nil _))) (fun i hi => ?_)
  have e0 : (i : Int).toNat = i := by omega
  have hct := Rt.cntR_take hkl i (by omega)
  refine cd_seq ?_
  refine cd_seq ?_
  refine cd_region ?_
  refine st (ev_move rfl) rfl rfl rfl ?_
  refine st (ev_lss rfl rfl) rfl rfl rfl ?_
  refine op_nil ?_
  refine ax_then ?_
  refine At.regs (L' := [(1, _), (3, _), (4, _), (5, _), (6, _)]) (.cons rfl (.cons rfl (.cons rfl (.cons rfl (.cons rfl (.nil _)))))) ?_
  refine cd_if rfl (fun hc6 => ?_) (fun hc6 => ?_)
  ·
    have hlt : i < 4 := by omega
    have hku := hu _ (Rt.kds_get (l := l) (i := i) (by omega))
    have hkm := hkl _ (Rt.kds_get (l := l) (i := i) (by omega))
    refine cd_skip ?_
    refine ax_then ?_
    refine At.regs (L' := [(1, _), (3, _), (4, _), (5, _), (6, _)]) (.cons rfl (.cons rfl (.cons rfl (.cons rfl (.cons rfl (.nil _)))))) ?_
    refine cd_seq ?_
    refine cd_block ?_
    refine cd_region ?_
    refine st (ev_move rfl) rfl rfl rfl ?_
    refine st (ev_move rfl) rfl rfl rfl ?_
    refine st (ev_fieldAddr (b := _) Try.underlying27 (f := _) rfl ty25 (by decide) rfl) rfl rfl rfl ?_
    refine st (ev_indexAddr_arr Try.underlying25 ty24 rfl rfl (by omega) (by omega)) rfl rfl rfl ?_
    refine st (ev_fieldAddr (b := _) Try.underlying24 (f := _) rfl ty22 (by decide) rfl) rfl rfl rfl ?_
    refine st (ld_mem1 (h := 1) (k := 2 + i * 2) ty22 rfl rfl rfl (by rw [e0]; show 0 + 2 + i * 2 + 0 = 0 + (2 + i * 2); omega) (Rt.rootC_ks _ _ (by omega))) rfl rfl rfl ?_
    refine st (ev_len_of (sz := 32) (n := (l.getD i Rt.rol0).2.ks.length) Try.underlying22 rfl (fun w1 sw => sw.row (i := 200) rfl (Rt.rowsR_mem (by omega))) (flat_len hku) (by decide)) rfl rfl rfl ?_
    refine st (ev_add64 rfl rfl (by omega) (by omega)) rfl rfl rfl ?_
    refine st (ev_assign rfl) rfl rfl rfl ?_
    refine op_nil ?_
    refine ax_block ?_
    refine ax_then ?_
    refine At.regs (L' := [(1, _), (3, _), (4, _), (5, _), (6, _), (9, _), (10, _), (11, _), (12, _), (13, _), (14, _), (15, _), (16, _)]) (.cons rfl (.cons rfl (.cons rfl (.cons rfl (.cons rfl (.cons rfl (.cons rfl (.cons rfl (.cons rfl (.cons rfl (.cons rfl (.cons rfl (.cons rfl (.nil _)))))))))))))) ?_
    refine cd_region ?_
    refine st (ev_move rfl) rfl rfl rfl ?_
    refine st (ev_add64 rfl rfl (by omega) (by omega)) rfl rfl rfl ?_
    refine st (ev_assign rfl) rfl rfl rfl ?_
    refine op_nil ?_
    refine ax_eq (i := 3) (v' := .int .i64 (Rt.cntR (Rt.kds (l.take (i + 1))) : Nat)) rfl (by rw [Rt.cntR_snoc l (by omega)]; rfl) ?_
    exact at_again (i + 1) (by omega) (by omega) (.cons rfl (.cons rfl (.cons rfl (.nil _)))) (.nil _) (.cons rfl (.cons rfl (.nil _)))
  ·
    obtain rfl : i = 4 := by omega
    have htk : l.take 4 = l := List.take_of_length_le (by omega)
    refine cd_exit ?_
    refine ax_then_exit ?_
    refine ax_then_exit ?_
    refine ax_block_hit ?_
    refine ax_then ?_
    refine At.regs (L' := [(3, _)]) (.cons rfl (.nil _)) ?_
    refine cd_seq ?_
    refine cd_region ?_
    refine st (ev_move rfl) rfl rfl rfl ?_
    refine st (ev_gtr rfl rfl) rfl rfl rfl ?_
    refine st (ev_assign rfl) rfl rfl rfl ?_
    refine op_nil ?_
    refine ax_then ?_
    refine At.regs (L' := [(2, _)]) (.cons rfl (.nil _)) ?_
    refine cd_ret ?_
    refine rt_tmp (.inl rfl) Try.results13 rfl ?_
    exact fun w1 sw => ⟨congrArg (fun b => Ending.returned (Value.bool b)) (by rw [htk]), sw.gives (.nil _)⟩
set_option maxRecDepth 20000 in
set_option maxHeartbeats 1000000 in
theorem fresh_any (v e x : Int) (r : List Value) (hr : r.length = 8) (w : World) : Calls Try.prog 17 #[.agg (Value.int .i64 v :: Value.int .i64 e :: r).toArray, .int .i64 x] w (PostV w (.bool (decide (x < e)))) := by
  refine calls_at (vs := [.agg (Value.int .i64 v :: Value.int .i64 e :: r).toArray, .int .i64 x]) (X := []) (H := []) (F := []) 9 Try.func17 rfl rfl rfl (Sat.start0 w) ?_
  refine cd_seq ?_
  refine cd_region ?_
  refine st_box (h := 2) rfl rfl rfl rfl (fun b2 => ?_)
  refine st (ev_assign rfl) rfl rfl rfl ?_
  refine op_nil ?_
  refine ax_then ?_
  refine At.regs (L' := [(1, _), (2, _), (4, _)]) (.cons rfl (.cons rfl (.cons rfl (.nil _)))) ?_
  refine cd_seq ?_
  refine cd_region ?_
  refine st (ev_fieldAddr (b := _) Try.underlying27 (f := _) rfl ty3 (by decide) rfl) rfl rfl rfl ?_
  refine st (ld_blk1 (h := 2) ty3 rfl rfl rfl rfl) rfl rfl rfl ?_
  refine st (ev_move rfl) rfl rfl rfl ?_
  refine st (ev_gtr rfl rfl) rfl rfl rfl ?_
  refine st (ev_assign rfl) rfl rfl rfl ?_
  refine op_nil ?_
  refine ax_then ?_
  refine At.regs (L' := [(4, _)]) (.cons rfl (.nil _)) ?_
  refine cd_ret ?_
  refine rt_tmp (.inl rfl) Try.results17 rfl ?_
  exact fun w1 sw => ⟨rfl, sw.gives (.nil _)⟩
set_option maxRecDepth 20000 in
set_option maxHeartbeats 1000000 in
theorem known8_any (w : World) : Calls Try.prog 18 #[] w (PostV w (.bool true)) := by
  refine calls_at (vs := []) (X := []) (H := []) (F := []) 8 Try.func18 rfl rfl rfl (Sat.start0 w) ?_
  refine cd_seq ?_
  refine cd_region ?_
  refine st (ev_assign rfl) rfl rfl rfl ?_
  refine op_nil ?_
  refine ax_then ?_
  refine At.regs (L' := [(0, _)]) (.cons rfl (.nil _)) ?_
  refine cd_seq ?_
  refine cd_region ?_
  refine st (ev_build_struct ty27 rfl pl27 rfl rfl) rfl rfl rfl ?_
  refine st_callv has17 rfl (fun w1 sw => fresh_any (0) (5) (4) ([.slice none 0 0, .int .i64 0, .slice none 0 0, .int .i64 0, .slice none 0 0, .int .i64 0, .slice none 0 0, .int .i64 0]) rfl w1) rfl rfl ?_
  refine st (ev_move rfl) rfl rfl rfl ?_
  refine at_eq (i := 3) (v' := .bool true) rfl (by simp only [Value.bool.injEq, decide_eq_true_eq, decide_eq_false_iff_not]; decide) ?_
  refine st (ev_build_struct ty27 rfl pl27 rfl rfl) rfl rfl rfl ?_
  refine st_callv has17 rfl (fun w1 sw => fresh_any (0) (5) (5) ([.slice none 0 0, .int .i64 0, .slice none 0 0, .int .i64 0, .slice none 0 0, .int .i64 0, .slice none 0 0, .int .i64 0]) rfl w1) rfl rfl ?_
  refine st (ev_not_if rfl) rfl rfl rfl ?_
  refine st (ev_pick_t rfl rfl) rfl rfl rfl ?_
  refine st (ev_assign rfl) rfl rfl rfl ?_
  refine op_nil ?_
  refine ax_then ?_
  refine At.regs (L' := [(0, _)]) (.cons rfl (.nil _)) ?_
  refine cd_ret ?_
  refine rt_tmp (.inl rfl) Try.results18 rfl ?_
  exact fun w1 sw => ⟨rfl, sw.gives (.nil _)⟩
end Go.Proofs.Ytgfnmolbagilmaa
