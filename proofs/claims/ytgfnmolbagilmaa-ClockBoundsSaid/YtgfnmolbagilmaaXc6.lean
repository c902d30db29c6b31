/- The statement's proof, part 6: what its walks and its plain laws need. -/
import Derived.Test.YtgfnmolbagilmaaRows
import Derived.Tactics
import Derived.Deep.Quiet
import Derived.StillTail
import Derived.Laws.World
import Derived.Laws.Sem
import Derived.Laws.Entries
import Derived.Below
import Derived.Deep.LoopGhost
import Derived.Laws.BytesString
import Derived.Laws.IdiomStrings
import Derived.KernelRfl
import Derived.Carry
import Derived.OpenShut
import Derived.ProofKit
import Derived.ChangeSame
import Derived.HandedShaped
import Derived.SizedLaws
import Derived.Test.YtgfnmolbagilmaaProg
import Derived.Laws.Strings
import Derived.Test.YtgfnmolbagilmaaXc5
namespace Go.Proofs.Ytgfnmolbagilmaa
open Go Go.RowKit Fw
open Sha
open Ots
open Mk
set_option linter.unusedVariables false
set_option linter.unusedSimpArgs false
set_option maxRecDepth 20000 in
set_option maxHeartbeats 2000000 in
theorem riskeys_any (sv : Value) (ks : List (List Int)) (need : Int) (w : World) (hu : H32 ks) (hs0 : ks.length ≤ 140737488352000) (h : Rd w sv 32 (flat ks)) : Calls Try.prog 63 #[.agg (List.toArray [sv, .int .i64 need])] w (PostV w (.bool (decide (isK ks need)))) := by
  refine calls_at (vs := [.agg (List.toArray [sv, .int .i64 need])]) (X := []) (H := []) (F := [(20, .sl (sv) 32 (flat (ks)))]) 51 Try.func63 rfl rfl rfl (Sat.rd0 20 h) ?_
  refine cd_seq ?_
  refine cd_region ?_
  refine st_box (h := 1) rfl rfl rfl rfl (fun b1 => ?_)
  refine st (ev_assign rfl) rfl rfl rfl ?_
  refine op_nil ?_
  refine ax_then ?_
  refine At.regs (L' := [(1, _), (2, _)]) (.cons rfl (.cons rfl (.nil _))) ?_
  refine cd_seq ?_
  refine cd_seq ?_
  refine cd_region ?_
  refine st (ev_fieldAddr (b := _) Try.underlying24 (f := _) rfl ty22 (by decide) rfl) rfl rfl rfl ?_
  refine st (ld_blk1 (h := 1) ty22 rfl rfl rfl rfl) rfl rfl rfl ?_
  refine st (ev_len_rdh (h := 20) Try.underlying22 rfl rfl (by assumption)) rfl rfl rfl ?_
  refine st (ev_lss rfl rfl) rfl rfl rfl ?_
  refine st (ev_move rfl) rfl rfl rfl ?_
  refine at_split_if (i := 9) rfl (fun hg9 => ?_) (fun hg9 => ?_)
  ·
    refine st_skip rfl rfl rfl ?_
    refine st_skip rfl rfl rfl ?_
    refine st_skip rfl rfl rfl ?_
    refine st_skip rfl rfl rfl ?_
    refine st (ev_pick_t rfl rfl) rfl rfl rfl ?_
    refine st (ev_move rfl) rfl rfl rfl ?_
    refine st_skip rfl rfl rfl ?_
    refine st_skip rfl rfl rfl ?_
    refine st_skip rfl rfl rfl ?_
    refine st (ev_pick_t rfl rfl) rfl rfl rfl ?_
    refine st (ev_move rfl) rfl rfl rfl ?_
    refine st_skip rfl rfl rfl ?_
    refine st_skip rfl rfl rfl ?_
    refine st_skip rfl rfl rfl ?_
    refine st_skip rfl rfl rfl ?_
    refine st_skip rfl rfl rfl ?_
    refine st_skip rfl rfl rfl ?_
    refine st (ev_pick_t rfl rfl) rfl rfl rfl ?_
    refine op_nil ?_
    refine ax_then ?_
    refine At.regs (L' := [(1, _), (2, _), (27, _)]) (.cons rfl (.cons rfl (.cons rfl (.nil _)))) ?_
    refine cd_true rfl ?_
    refine cd_seq ?_
    refine cd_region ?_
    refine st (ev_assign rfl) rfl rfl rfl ?_
    refine op_nil ?_
    refine ax_then ?_
    refine At.regs (L' := [(1, _), (2, _)]) (.cons rfl (.cons rfl (.nil _))) ?_
    refine cd_ret ?_
    refine ax_then_ret ?_
    refine rt_tmp (.inl rfl) Try.results63 rfl ?_
    exact fun w1 sw => ⟨congrArg (fun b => Ending.returned (Value.bool b)) (decide_eq_false (fun hh => by obtain ⟨_, a1, a2, a3, a4⟩ := hh; omega)).symm, sw.gives (.nil _)⟩
  ·
    refine st (ev_fieldAddr (b := _) Try.underlying24 (f := _) rfl ty22 (by decide) rfl) rfl rfl rfl ?_
    refine st (ld_blk1 (h := 1) ty22 rfl rfl rfl rfl) rfl rfl rfl ?_
    refine st (ev_len_rdh (h := 20) Try.underlying22 rfl rfl (by assumption)) rfl rfl rfl ?_
    refine st (ev_gtr rfl rfl) rfl rfl rfl ?_
    refine st (ev_pick_f rfl rfl) rfl rfl rfl ?_
    refine st (ev_move rfl) rfl rfl rfl ?_
    refine at_split_if (i := 15) rfl (fun hg15 => ?_) (fun hg15 => ?_)
    ·
      refine st_skip rfl rfl rfl ?_
      refine st_skip rfl rfl rfl ?_
      refine st_skip rfl rfl rfl ?_
      refine st (ev_pick_t rfl rfl) rfl rfl rfl ?_
      refine st (ev_move rfl) rfl rfl rfl ?_
      refine st_skip rfl rfl rfl ?_
      refine st_skip rfl rfl rfl ?_
      refine st_skip rfl rfl rfl ?_
      refine st_skip rfl rfl rfl ?_
      refine st_skip rfl rfl rfl ?_
      refine st_skip rfl rfl rfl ?_
      refine st (ev_pick_t rfl rfl) rfl rfl rfl ?_
      refine op_nil ?_
      refine ax_then ?_
      refine At.regs (L' := [(1, _), (2, _), (27, _)]) (.cons rfl (.cons rfl (.cons rfl (.nil _)))) ?_
      refine cd_true rfl ?_
      refine cd_seq ?_
      refine cd_region ?_
      refine st (ev_assign rfl) rfl rfl rfl ?_
      refine op_nil ?_
      refine ax_then ?_
      refine At.regs (L' := [(1, _), (2, _)]) (.cons rfl (.cons rfl (.nil _))) ?_
      refine cd_ret ?_
      refine ax_then_ret ?_
      refine rt_tmp (.inl rfl) Try.results63 rfl ?_
      exact fun w1 sw => ⟨congrArg (fun b => Ending.returned (Value.bool b)) (decide_eq_false (fun hh => by obtain ⟨_, a1, a2, a3, a4⟩ := hh; omega)).symm, sw.gives (.nil _)⟩
    ·
      refine st (ev_fieldAddr (b := _) Try.underlying24 (f := _) rfl ty3 (by decide) rfl) rfl rfl rfl ?_
      refine st (ld_blk1 (h := 1) ty3 rfl rfl rfl rfl) rfl rfl rfl ?_
      refine st (ev_lss rfl rfl) rfl rfl rfl ?_
      refine st (ev_pick_f rfl rfl) rfl rfl rfl ?_
      refine st (ev_move rfl) rfl rfl rfl ?_
      refine at_split_if (i := 20) rfl (fun hg20 => ?_) (fun hg20 => ?_)
      ·
        refine st_skip rfl rfl rfl ?_
        refine st_skip rfl rfl rfl ?_
        refine st_skip rfl rfl rfl ?_
        refine st_skip rfl rfl rfl ?_
        refine st_skip rfl rfl rfl ?_
        refine st_skip rfl rfl rfl ?_
        refine st (ev_pick_t rfl rfl) rfl rfl rfl ?_
        refine op_nil ?_
        refine ax_then ?_
        refine At.regs (L' := [(1, _), (2, _), (27, _)]) (.cons rfl (.cons rfl (.cons rfl (.nil _)))) ?_
        refine cd_true rfl ?_
        refine cd_seq ?_
        refine cd_region ?_
        refine st (ev_assign rfl) rfl rfl rfl ?_
        refine op_nil ?_
        refine ax_then ?_
        refine At.regs (L' := [(1, _), (2, _)]) (.cons rfl (.cons rfl (.nil _))) ?_
        refine cd_ret ?_
        refine ax_then_ret ?_
        refine rt_tmp (.inl rfl) Try.results63 rfl ?_
        exact fun w1 sw => ⟨congrArg (fun b => Ending.returned (Value.bool b)) (decide_eq_false (fun hh => by obtain ⟨_, a1, a2, a3, a4⟩ := hh; omega)).symm, sw.gives (.nil _)⟩
      ·
        refine st (ev_fieldAddr (b := _) Try.underlying24 (f := _) rfl ty3 (by decide) rfl) rfl rfl rfl ?_
        refine st (ld_blk1 (h := 1) ty3 rfl rfl rfl rfl) rfl rfl rfl ?_
        refine st (ev_fieldAddr (b := _) Try.underlying24 (f := _) rfl ty22 (by decide) rfl) rfl rfl rfl ?_
        refine st (ld_blk1 (h := 1) ty22 rfl rfl rfl rfl) rfl rfl rfl ?_
        refine st (ev_len_rdh (h := 20) Try.underlying22 rfl rfl (by assumption)) rfl rfl rfl ?_
        refine st (ev_gtr rfl rfl) rfl rfl rfl ?_
        refine st (ev_pick_f rfl rfl) rfl rfl rfl ?_
        refine op_nil ?_
        refine ax_then ?_
        refine At.regs (L' := [(1, _), (2, _), (27, _)]) (.cons rfl (.cons rfl (.cons rfl (.nil _)))) ?_
        refine cd_if rfl (fun hc27 => ?_) (fun hc27 => ?_)
        ·
          refine cd_seq ?_
          refine cd_region ?_
          refine st (ev_assign rfl) rfl rfl rfl ?_
          refine op_nil ?_
          refine ax_then ?_
          refine At.regs (L' := [(1, _), (2, _)]) (.cons rfl (.cons rfl (.nil _))) ?_
          refine cd_ret ?_
          refine ax_then_ret ?_
          refine rt_tmp (.inl rfl) Try.results63 rfl ?_
          exact fun w1 sw => ⟨congrArg (fun b => Ending.returned (Value.bool b)) (decide_eq_false (fun hh => by obtain ⟨_, a1, a2, a3, a4⟩ := hh; omega)).symm, sw.gives (.nil _)⟩
        ·
          have hbas : bas ks need := ⟨by omega, by omega, by omega, by omega⟩
          refine cd_skip ?_
          refine ax_then ?_
          refine At.regs (L' := [(1, _), (2, _)]) (.cons rfl (.cons rfl (.nil _))) ?_
          refine cd_seq ?_
          refine cd_seq ?_
          refine cd_region ?_
          refine st (ev_assign rfl) rfl rfl rfl ?_
          refine op_nil ?_
          refine ax_then ?_
          refine At.regs (L' := [(1, _), (2, _), (3, _)]) (.cons rfl (.cons rfl (.cons rfl (.nil _)))) ?_
          refine cd_block ?_
          refine cd_loop (ι := Nat) (fun i => i ≤ ks.length ∧ outK ks need i) (fun i => ks.length - i)
              (fun i => [(1, .pointer (some ⟨b1, 0, none⟩)), (3, .int .i64 (i : Int))])
              (fun i => [(1, .blk b1 (.cells ([sv, .int .i64 need]).toArray 24))])
              (fun i => [(20, .sl (sv) 32 (flat (ks)))])
              0 (⟨by omega, hbas, fun a ha => by omega⟩) (.cons rfl (.cons rfl (.nil _))) (.cons rfl (.nil _)) (.cons rfl (.nil _)) (fun i hi => ?_)
          have hi1 := hi
          have e0 : (i : Int).toNat = i := by omega
          have hi2 := hi.1
          refine cd_seq ?_
          refine cd_seq ?_
          refine cd_region ?_
          refine st (ev_move rfl) rfl rfl rfl ?_
          refine st (ev_fieldAddr (b := _) Try.underlying24 (f := _) rfl ty22 (by decide) rfl) rfl rfl rfl ?_
          refine st (ld_blk1 (h := 1) ty22 rfl rfl rfl rfl) rfl rfl rfl ?_
          refine st (ev_len_rdh (h := 20) Try.underlying22 rfl rfl (by assumption)) rfl rfl rfl ?_
          refine st (ev_lss rfl rfl) rfl rfl rfl ?_
          refine op_nil ?_
          refine ax_then ?_
          refine At.regs (L' := [(1, _), (3, _), (28, _), (29, _), (30, _), (31, _), (32, _)]) (.cons rfl (.cons rfl (.cons rfl (.cons rfl (.cons rfl (.cons rfl (.cons rfl (.nil _)))))))) ?_
          refine cd_if rfl (fun hc32 => ?_) (fun hc32 => ?_)
          ·
            refine cd_skip ?_
            refine ax_then ?_
            refine At.regs (L' := [(1, _), (3, _), (28, _), (29, _), (30, _), (31, _), (32, _)]) (.cons rfl (.cons rfl (.cons rfl (.cons rfl (.cons rfl (.cons rfl (.cons rfl (.nil _)))))))) ?_
            refine cd_seq ?_
            refine cd_block ?_
            refine cd_seq ?_
            refine cd_region ?_
            refine st (ev_assign rfl) rfl rfl rfl ?_
            refine op_nil ?_
            refine ax_then ?_
            refine At.regs (L' := [(1, _), (3, _), (4, _), (28, _), (29, _), (30, _), (31, _), (32, _)]) (.cons rfl (.cons rfl (.cons rfl (.cons rfl (.cons rfl (.cons rfl (.cons rfl (.cons rfl (.nil _))))))))) ?_
            refine cd_block ?_
            refine cd_loop (ι := Nat) (fun j => j ≤ i ∧ ∀ b, b < j → ks.getD i [] ≠ ks.getD b []) (fun j => i - j)
                (fun j => [(1, .pointer (some ⟨b1, 0, none⟩)), (3, .int .i64 (i : Int)), (4, .int .i64 (j : Int))])
                (fun j => [(1, .blk b1 (.cells ([sv, .int .i64 need]).toArray 24))])
                (fun j => [(20, .sl (sv) 32 (flat (ks)))])
                0 (⟨by omega, fun b hb => by omega⟩) (.cons rfl (.cons rfl (.cons rfl (.nil _)))) (.cons rfl (.nil _)) (.cons rfl (.nil _)) (fun j hi => ?_)
            have e1 : (j : Int).toNat = j := by omega
            have hj2 := hi.1
            have hgi := hu.get (i := (i : Int).toNat) (by omega)
            have hgj : j < i → (ks.getD (j : Int).toNat []).length = 32 := fun hj => hu.get (by omega)
            refine cd_seq ?_
            refine cd_seq ?_
            refine cd_region ?_
            refine st (ev_move rfl) rfl rfl rfl ?_
            refine st (ev_move rfl) rfl rfl rfl ?_
            refine st (ev_lss rfl rfl) rfl rfl rfl ?_
            refine op_nil ?_
            refine ax_then ?_
            refine At.regs (L' := [(1, _), (3, _), (4, _), (35, _), (36, _), (37, _)]) (.cons rfl (.cons rfl (.cons rfl (.cons rfl (.cons rfl (.cons rfl (.nil _))))))) ?_
            refine cd_if rfl (fun hc37 => ?_) (fun hc37 => ?_)
            ·
              refine cd_skip ?_
              refine ax_then ?_
              refine At.regs (L' := [(1, _), (3, _), (4, _), (35, _), (36, _), (37, _)]) (.cons rfl (.cons rfl (.cons rfl (.cons rfl (.cons rfl (.cons rfl (.nil _))))))) ?_
              refine cd_seq ?_
              refine cd_block ?_
              refine cd_seq ?_
              have hgj2 := hgj (by omega)
              refine cd_open hmix (by decide +kernel) ?_
              refine qt (ev_fieldAddr (b := _) Try.underlying24 (f := _) rfl ty22 (by decide) rfl) rfl rfl rfl ?_
              refine qt (ld_blk1 (h := 1) ty22 rfl rfl rfl rfl) rfl rfl rfl ?_
              refine qt (ev_move rfl) rfl rfl rfl ?_
              refine qt (ev_indexAddr_rdh (h := 20) Try.underlying22 ty55 rfl rfl rfl (by assumption) (by omega) (by omega)) rfl rfl rfl ?_
              refine qt (ld_rdh (h := 20) ty55 rfl rfl rfl (by assumption) (by omega)) rfl rfl rfl ?_
              refine qt (ev_fieldAddr (b := _) Try.underlying24 (f := _) rfl ty22 (by decide) rfl) rfl rfl rfl ?_
              refine qt (ld_blk1 (h := 1) ty22 rfl rfl rfl rfl) rfl rfl rfl ?_
              refine qt (ev_move rfl) rfl rfl rfl ?_
              refine qt (ev_indexAddr_rdh (h := 20) Try.underlying22 ty55 rfl rfl rfl (by assumption) (by omega) (by omega)) rfl rfl rfl ?_
              refine qt (ld_rdh (h := 20) ty55 rfl rfl rfl (by assumption) (by omega)) rfl rfl rfl ?_
              refine qt (ev_eql_arr Try.underlying55 ty5 eqg55 rfl rfl (by first | omega | (simp only [List.length_append, List.length_cons, List.length_nil, List.length_set, List.length_replicate, List.length_take, List.length_drop, ints_length, wr_length, sha_len, node_len, recov_len, Ky.named_len, Ky.keyPub_len] <;> omega) | rfl) (by first | omega | (simp only [List.length_append, List.length_cons, List.length_nil, List.length_set, List.length_replicate, List.length_take, List.length_drop, ints_length, wr_length, sha_len, node_len, recov_len, Ky.named_len, Ky.keyPub_len] <;> omega) | rfl)) rfl rfl rfl ?_
              refine qt_end ?_
              refine op_nil ?_
              refine ax_then ?_
              refine At.regs (L' := [(1, _), (3, _), (4, _), (35, _), (36, _), (37, _), (40, _), (41, _), (42, _), (43, _), (44, _), (45, _), (46, _), (47, _), (48, _), (49, _), (50, _)]) (.cons rfl (.cons rfl (.cons rfl (.cons rfl (.cons rfl (.cons rfl (.cons rfl (.cons rfl (.cons rfl (.cons rfl (.cons rfl (.cons rfl (.cons rfl (.cons rfl (.cons rfl (.cons rfl (.cons rfl (.nil _)))))))))))))))))) ?_
              refine cd_if rfl (fun hc50 => ?_) (fun hc50 => ?_)
              ·
                refine cd_seq ?_
                refine cd_region ?_
                refine st (ev_assign rfl) rfl rfl rfl ?_
                refine op_nil ?_
                refine ax_then ?_
                refine At.regs (L' := [(1, _), (2, _), (3, _), (4, _), (35, _), (36, _), (37, _), (40, _), (41, _), (42, _), (43, _), (44, _), (45, _), (46, _), (47, _), (48, _), (49, _), (50, _)]) (.cons rfl (.cons rfl (.cons rfl (.cons rfl (.cons rfl (.cons rfl (.cons rfl (.cons rfl (.cons rfl (.cons rfl (.cons rfl (.cons rfl (.cons rfl (.cons rfl (.cons rfl (.cons rfl (.cons rfl (.cons rfl (.nil _))))))))))))))))))) ?_
                refine cd_ret ?_
                refine ax_block_ret ?_
                refine ax_then_ret ?_
                refine ax_then_ret ?_
                refine ax_block_ret ?_
                refine ax_block_ret ?_
                refine ax_then_ret ?_
                refine ax_then_ret ?_
                refine ax_block_ret ?_
                refine ax_then_ret ?_
                refine rt_tmp (.inl rfl) Try.results63 rfl ?_
                exact fun w1 sw => ⟨congrArg (fun b => Ending.returned (Value.bool b)) (decide_eq_false (Qm.eqK_not (i := i) (j := j) (by omega) (by omega) (by rw [e0, e1] at hc50; exact hc50))).symm, sw.gives (.nil _)⟩
              ·
                refine cd_skip ?_
                refine ax_block ?_
                refine ax_then ?_
                refine At.regs (L' := [(1, _), (3, _), (4, _), (35, _), (36, _), (37, _), (40, _), (41, _), (42, _), (43, _), (44, _), (45, _), (46, _), (47, _), (48, _), (49, _), (50, _)]) (.cons rfl (.cons rfl (.cons rfl (.cons rfl (.cons rfl (.cons rfl (.cons rfl (.cons rfl (.cons rfl (.cons rfl (.cons rfl (.cons rfl (.cons rfl (.cons rfl (.cons rfl (.cons rfl (.cons rfl (.nil _)))))))))))))))))) ?_
                refine cd_region ?_
                refine st (ev_move rfl) rfl rfl rfl ?_
                refine st (ev_add64 rfl rfl (by omega) (by omega)) rfl rfl rfl ?_
                refine st (ev_assign rfl) rfl rfl rfl ?_
                refine op_nil ?_
                exact at_again (j + 1) (⟨by omega, fun b hb => (Nat.lt_succ_iff_lt_or_eq.1 hb).elim (hi.2 b) (fun e => by subst e; rw [← e0, ← e1]; exact hc50)⟩) (by omega) (.cons rfl (.cons rfl (.cons rfl (.nil _)))) (.cons rfl (.nil _)) (.cons rfl (.nil _))
            ·
              obtain rfl : i = j := by omega
              refine cd_exit ?_
              refine ax_then_exit ?_
              refine ax_then_exit ?_
              refine ax_block_hit ?_
              refine ax_block ?_
              refine ax_then ?_
              refine At.regs (L' := [(1, _), (3, _), (4, _), (35, _), (36, _), (37, _)]) (.cons rfl (.cons rfl (.cons rfl (.cons rfl (.cons rfl (.cons rfl (.nil _))))))) ?_
              refine cd_region ?_
              refine st (ev_move rfl) rfl rfl rfl ?_
              refine st (ev_add64 rfl rfl (by omega) (by omega)) rfl rfl rfl ?_
              refine st (ev_assign rfl) rfl rfl rfl ?_
              refine op_nil ?_
              exact at_again (i + 1) (⟨by omega, (innK_all (by omega)).1 ⟨hi1.2, hi.2⟩⟩) (by omega) (.cons rfl (.cons rfl (.nil _))) (.cons rfl (.nil _)) (.cons rfl (.nil _))
          ·
            obtain rfl : i = ks.length := by omega
            refine cd_exit ?_
            refine ax_then_exit ?_
            refine ax_then_exit ?_
            refine ax_block_hit ?_
            refine ax_then ?_
            refine At.regs (L' := []) (.nil _) ?_
            refine cd_seq ?_
            refine cd_region ?_
            refine st (ev_assign rfl) rfl rfl rfl ?_
            refine op_nil ?_
            refine ax_then ?_
            refine At.regs (L' := [(2, _)]) (.cons rfl (.nil _)) ?_
            refine cd_ret ?_
            refine rt_tmp (.inl rfl) Try.results63 rfl ?_
            exact fun w1 sw => ⟨congrArg (fun b => Ending.returned (Value.bool b)) (decide_eq_true (outK_isK.2 hi1.2)).symm, sw.gives (.nil _)⟩
set_option maxRecDepth 20000 in
set_option maxHeartbeats 4000000 in
theorem rwho_any (pb mv kv : Value) (need : Int) (body : List Int) (ms : List Qm.Mark) (ks : List (List Int)) (w : World) (hbody : Rd w pb 1 (ints .u8 body)) (hbl : body.length ≤ 140737488352000) (ha : Qm.AOk ms) (hml : ms.length ≤ 1000000) (hm : Rd w mv 35 (Qm.mflat ms)) (hmr : ∀ x, x ∈ ms → Qm.MRd w x) (hu : H32 ks) (hkl : ks.length ≤ 1000000) (hk : Rd w kv 32 (flat ks)) : Calls Try.prog 64 #[.agg (List.toArray [pb, mv]), .agg (List.toArray [kv, .int .i64 need])] w (Post (ι := Value) w [] (fun _ => True) (fun v => v) (fun v => [(0, .own (v) 55 32 (flat (Qm.who body ms ks)))])) := by
  have hmf := Qm.mflat_len ha
  refine calls_at (vs := [.agg (List.toArray [pb, mv]), .agg (List.toArray [kv, .int .i64 need])]) (X := []) (H := []) (F := [(22, .sl (pb) 1 (ints .u8 (body))), (21, .sl (mv) 35 (Qm.mflat (ms))), (20, .sl (kv) 32 (flat (ks)))]) 88 Try.func64 rfl rfl rfl (((Sat.rd0 20 hk).more 21 hm).more 22 hbody) ?_
  refine cd_seq ?_
  refine cd_region ?_
  refine st_box (h := 2) rfl rfl rfl rfl (fun b2 => ?_)
  refine st_box (h := 3) rfl rfl rfl rfl (fun b3 => ?_)
  refine st (ev_assign rfl) rfl rfl rfl ?_
  refine at_own_nil 4 55 32 ?_
  refine at_heq (i := 4) (v' := .own (.slice none 0 0) 55 32 (flat [])) rfl rfl ?_
  have hu4 := H32.nil
  refine op_nil ?_
  refine ax_then ?_
  refine At.regs (L' := [(2, _), (3, _), (4, _)]) (.cons rfl (.cons rfl (.cons rfl (.nil _)))) ?_
  refine cd_seq ?_
  refine at_freeze_blk (h := 2) (H' := [(3, _)]) 2 rfl (.cons rfl (.nil _)) rfl ?_
  refine at_freeze_blk (h := 3) (H' := []) 3 rfl (.nil _) rfl ?_
  refine cd_region ?_
  refine st (ev_assign rfl) rfl rfl rfl ?_
  refine at_own_nil 5 55 32 ?_
  refine at_heq (i := 5) (v' := .own (.slice none 0 0) 55 32 (flat [])) rfl rfl ?_
  have hu5 := H32.nil
  refine op_nil ?_
  refine ax_then ?_
  refine At.regs (L' := [(2, _), (3, _), (4, _), (5, _)]) (.cons rfl (.cons rfl (.cons rfl (.cons rfl (.nil _))))) ?_
  refine cd_seq ?_
  refine cd_seq ?_
  refine cd_region ?_
  refine st (ev_assign rfl) rfl rfl rfl ?_
  refine op_nil ?_
  refine ax_then ?_
  refine At.regs (L' := [(2, _), (3, _), (4, _), (5, _), (6, _)]) (.cons rfl (.cons rfl (.cons rfl (.cons rfl (.cons rfl (.nil _)))))) ?_
  refine cd_block ?_
  refine cd_loop (ι := Nat × Value) (fun x => x.1 ≤ ks.length) (fun x => ks.length - x.1)
      (fun x => [(2, .pointer (some ⟨b2, 0, none⟩)), (3, .pointer (some ⟨b3, 0, none⟩)), (5, x.2), (6, .int .i64 (x.1 : Int))])
      (fun x => [(5, .own (x.2) 55 32 (flat (Qm.who body ms (ks.take (x.1)))))])
      (fun x => [(2, .mem b2 0 [pb, mv]), (3, .mem b3 0 [kv, .int .i64 need]), (20, .sl (kv) 32 (flat (ks))), (21, .sl (mv) 35 (Qm.mflat (ms))), (22, .sl (pb) 1 (ints .u8 (body)))])
      (0, .slice none 0 0) (by omega) (.cons rfl (.cons rfl (.cons rfl (.cons rfl (.nil _))))) (.cons rfl (.nil _)) (.cons rfl (.cons rfl (.cons rfl (.cons rfl (.cons rfl (.nil _)))))) (fun x hi => ?_)
  obtain ⟨i, u⟩ := x
  dsimp only at hi ⊢
  have hi1 := hi
  have e0 : (i : Int).toNat = i := by omega
  have hgi : i < ks.length → (ks.getD i []).length = 32 := fun hh => hu.get hh
  have hgi2 : i < ks.length → (ks.getD (i : Int).toNat []).length = 32 := fun hh => by rw [e0]; exact hu.get hh
  refine cd_seq ?_
  refine cd_seq ?_
  refine cd_region ?_
  refine st (ev_move rfl) rfl rfl rfl ?_
  refine st (ev_fieldAddr (b := _) Try.underlying24 (f := _) rfl ty22 (by decide) rfl) rfl rfl rfl ?_
  refine st (ld_mem1 (h := 3) ty22 rfl rfl rfl (Nat.zero_add _).symm rfl) rfl rfl rfl ?_
  refine st (ev_len_rdh (h := 20) Try.underlying22 rfl rfl (by assumption)) rfl rfl rfl ?_
  refine st (ev_lss rfl rfl) rfl rfl rfl ?_
  refine op_nil ?_
  refine ax_then ?_
  refine At.regs (L' := [(2, _), (3, _), (5, _), (6, _), (10, _), (11, _), (12, _), (13, _), (14, _)]) (.cons rfl (.cons rfl (.cons rfl (.cons rfl (.cons rfl (.cons rfl (.cons rfl (.cons rfl (.cons rfl (.nil _)))))))))) ?_
  refine cd_if rfl (fun hc14 => ?_) (fun hc14 => ?_)
  ·
    have hlt1 : i < ks.length := by omega
    have hgi3 := hgi hlt1
    have hgi4 := hgi2 hlt1
    refine cd_skip ?_
    refine ax_then ?_
    refine At.regs (L' := [(2, _), (3, _), (5, _), (6, _), (10, _), (11, _), (12, _), (13, _), (14, _)]) (.cons rfl (.cons rfl (.cons rfl (.cons rfl (.cons rfl (.cons rfl (.cons rfl (.cons rfl (.cons rfl (.nil _)))))))))) ?_
    refine cd_seq ?_
    refine cd_block ?_
    refine cd_seq ?_
    refine cd_region ?_
    refine st (ev_assign rfl) rfl rfl rfl ?_
    refine op_nil ?_
    refine ax_then ?_
    refine At.regs (L' := [(2, _), (3, _), (5, _), (6, _), (7, _), (10, _), (11, _), (12, _), (13, _), (14, _)]) (.cons rfl (.cons rfl (.cons rfl (.cons rfl (.cons rfl (.cons rfl (.cons rfl (.cons rfl (.cons rfl (.cons rfl (.nil _))))))))))) ?_
    refine cd_seq ?_
    refine cd_seq ?_
    refine cd_region ?_
    refine st (ev_assign rfl) rfl rfl rfl ?_
    refine op_nil ?_
    refine ax_then ?_
    refine At.regs (L' := [(2, _), (3, _), (5, _), (6, _), (7, _), (8, _), (10, _), (11, _), (12, _), (13, _), (14, _)]) (.cons rfl (.cons rfl (.cons rfl (.cons rfl (.cons rfl (.cons rfl (.cons rfl (.cons rfl (.cons rfl (.cons rfl (.cons rfl (.nil _)))))))))))) ?_
    refine cd_block ?_
    refine at_eq (i := 7) (v' := .bool (decide (ks.getD i [] ∈ ks.take (0)))) rfl (congrArg Value.bool ((decide_eq_false (by rw [List.take_zero]; exact List.not_mem_nil)).symm)) ?_
    refine cd_loop (ι := Nat) (fun j => j ≤ i) (fun j => i - j)
        (fun j => [(2, .pointer (some ⟨b2, 0, none⟩)), (3, .pointer (some ⟨b3, 0, none⟩)), (5, u), (6, .int .i64 (i : Int)), (7, .bool (decide (ks.getD i [] ∈ ks.take (j)))), (8, .int .i64 (j : Int))])
        (fun j => [(5, .own (u) 55 32 (flat (Qm.who body ms (ks.take (i)))))])
        (fun j => [(2, .mem b2 0 [pb, mv]), (3, .mem b3 0 [kv, .int .i64 need]), (20, .sl (kv) 32 (flat (ks))), (21, .sl (mv) 35 (Qm.mflat (ms))), (22, .sl (pb) 1 (ints .u8 (body)))])
        0 (by omega) (.cons rfl (.cons rfl (.cons rfl (.cons rfl (.cons rfl (.cons rfl (.nil _))))))) (.cons rfl (.nil _)) (.cons rfl (.cons rfl (.cons rfl (.cons rfl (.cons rfl (.nil _)))))) (fun j hi => ?_)
    have hi2 := hi
    have e1 : (j : Int).toNat = j := by omega
    have hgj : j < i → (ks.getD (j : Int).toNat []).length = 32 := fun hj => hu.get (by omega)
    refine cd_seq ?_
    refine cd_seq ?_
    refine cd_region ?_
    refine st (ev_move rfl) rfl rfl rfl ?_
    refine st (ev_move rfl) rfl rfl rfl ?_
    refine st (ev_lss rfl rfl) rfl rfl rfl ?_
    refine op_nil ?_
    refine ax_then ?_
    refine At.regs (L' := [(2, _), (3, _), (5, _), (6, _), (7, _), (8, _), (17, _), (18, _), (19, _)]) (.cons rfl (.cons rfl (.cons rfl (.cons rfl (.cons rfl (.cons rfl (.cons rfl (.cons rfl (.cons rfl (.nil _)))))))))) ?_
    refine cd_if rfl (fun hc19 => ?_) (fun hc19 => ?_)
    ·
      refine cd_skip ?_
      refine ax_then ?_
      refine At.regs (L' := [(2, _), (3, _), (5, _), (6, _), (7, _), (8, _), (17, _), (18, _), (19, _)]) (.cons rfl (.cons rfl (.cons rfl (.cons rfl (.cons rfl (.cons rfl (.cons rfl (.cons rfl (.cons rfl (.nil _)))))))))) ?_
      refine cd_join (ι := Unit) (fun _ => True) (fun _ => [(2, .pointer (some ⟨b2, 0, none⟩)), (3, .pointer (some ⟨b3, 0, none⟩)), (5, u), (6, .int .i64 (i : Int)), (7, .bool (decide (ks.getD i [] ∈ ks.take (j + 1)))), (8, .int .i64 (j : Int))]) (fun _ => [(5, .own (u) 55 32 (flat (Qm.who body ms (ks.take (i)))))]) (fun _ => [(2, .mem b2 0 [pb, mv]), (3, .mem b3 0 [kv, .int .i64 need]), (20, .sl (kv) 32 (flat (ks))), (21, .sl (mv) 35 (Qm.mflat (ms))), (22, .sl (pb) 1 (ints .u8 (body)))]) ?_ (fun _ hj => ?_)
      ·
        refine cd_block ?_
        have hgj2 := hgj (by omega)
        refine cd_open hmix (by decide +kernel) ?_
        refine qt (ev_move rfl) rfl rfl rfl ?_
        refine qt (ev_move rfl) rfl rfl rfl ?_
        refine qt_split_if (i := 23) rfl (fun hg23 => ?_) (fun hg23 => ?_)
        ·
          refine qt_skip rfl rfl rfl ?_
          refine qt_skip rfl rfl rfl ?_
          refine qt_skip rfl rfl rfl ?_
          refine qt_skip rfl rfl rfl ?_
          refine qt_skip rfl rfl rfl ?_
          refine qt_skip rfl rfl rfl ?_
          refine qt_skip rfl rfl rfl ?_
          refine qt_skip rfl rfl rfl ?_
          refine qt_skip rfl rfl rfl ?_
          refine qt_skip rfl rfl rfl ?_
          refine qt_skip rfl rfl rfl ?_
          refine qt (ev_pick_t rfl rfl) rfl rfl rfl ?_
          refine qt (ev_assign rfl) rfl rfl rfl ?_
          refine qt_end ?_
          refine op_nil ?_
          refine ax_block ?_
          refine ax_eq (i := 7) (v' := .bool (decide (ks.getD i [] ∈ ks.take (j + 1)))) rfl (congrArg Value.bool ((decide_eq_true ((Qm.mem_take_succ (by omega) _).2 (.inl hg23))).symm)) ?_
          exact at_met (()) (trivial) (.cons rfl (.cons rfl (.cons rfl (.cons rfl (.cons rfl (.cons rfl (.nil _))))))) (.cons rfl (.nil _)) (.cons rfl (.cons rfl (.cons rfl (.cons rfl (.cons rfl (.nil _))))))
        ·
          refine qt (ev_fieldAddr (b := _) Try.underlying24 (f := _) rfl ty22 (by decide) rfl) rfl rfl rfl ?_
          refine qt (ld_mem1 (h := 3) ty22 rfl rfl rfl (Nat.zero_add _).symm rfl) rfl rfl rfl ?_
          refine qt (ev_move rfl) rfl rfl rfl ?_
          refine qt (ev_indexAddr_rdh (h := 20) Try.underlying22 ty55 rfl rfl rfl (by assumption) (by omega) (by omega)) rfl rfl rfl ?_
          refine qt (ld_rdh (h := 20) ty55 rfl rfl rfl (by assumption) (by omega)) rfl rfl rfl ?_
          refine qt (ev_fieldAddr (b := _) Try.underlying24 (f := _) rfl ty22 (by decide) rfl) rfl rfl rfl ?_
          refine qt (ld_mem1 (h := 3) ty22 rfl rfl rfl (Nat.zero_add _).symm rfl) rfl rfl rfl ?_
          refine qt (ev_move rfl) rfl rfl rfl ?_
          refine qt (ev_indexAddr_rdh (h := 20) Try.underlying22 ty55 rfl rfl rfl (by assumption) (by omega) (by omega)) rfl rfl rfl ?_
          refine qt (ld_rdh (h := 20) ty55 rfl rfl rfl (by assumption) (by omega)) rfl rfl rfl ?_
          refine qt (ev_eql_arr Try.underlying55 ty5 eqg55 rfl rfl (by first | omega | (simp only [List.length_append, List.length_cons, List.length_nil, List.length_set, List.length_replicate, List.length_take, List.length_drop, ints_length, wr_length, sha_len, node_len, recov_len, Ky.named_len, Ky.keyPub_len] <;> omega) | rfl) (by first | omega | (simp only [List.length_append, List.length_cons, List.length_nil, List.length_set, List.length_replicate, List.length_take, List.length_drop, ints_length, wr_length, sha_len, node_len, recov_len, Ky.named_len, Ky.keyPub_len] <;> omega) | rfl)) rfl rfl rfl ?_
          refine qt (ev_pick_f rfl rfl) rfl rfl rfl ?_
          refine qt (ev_assign rfl) rfl rfl rfl ?_
          refine qt_end ?_
          refine op_nil ?_
          refine ax_block ?_
          refine ax_eq (i := 7) (v' := .bool (decide (ks.getD i [] ∈ ks.take (j + 1)))) rfl (congrArg Value.bool (by simp only [e0, e1]; exact decide_eq_decide.2 ⟨fun h => (Qm.mem_take_succ (by omega) _).2 (.inr h), fun h => ((Qm.mem_take_succ (by omega) _).1 h).resolve_left hg23⟩)) ?_
          exact at_met (()) (trivial) (.cons rfl (.cons rfl (.cons rfl (.cons rfl (.cons rfl (.cons rfl (.nil _))))))) (.cons rfl (.nil _)) (.cons rfl (.cons rfl (.cons rfl (.cons rfl (.cons rfl (.nil _))))))
      ·
        refine cd_region ?_
        refine st (ev_move rfl) rfl rfl rfl ?_
        refine st (ev_add64 rfl rfl (by omega) (by omega)) rfl rfl rfl ?_
        refine st (ev_assign rfl) rfl rfl rfl ?_
        refine op_nil ?_
        exact at_again (j + 1) (by omega) (by omega) (.cons rfl (.cons rfl (.cons rfl (.cons rfl (.cons rfl (.cons rfl (.nil _))))))) (.cons rfl (.nil _)) (.cons rfl (.cons rfl (.cons rfl (.cons rfl (.cons rfl (.nil _))))))
    ·
      obtain rfl : i = j := by omega
      refine cd_exit ?_
      refine ax_then_exit ?_
      refine ax_then_exit ?_
      refine ax_block_hit ?_
      refine ax_then ?_
      refine At.regs (L' := [(2, _), (3, _), (5, _), (6, _), (7, _), (8, _), (17, _), (18, _), (19, _)]) (.cons rfl (.cons rfl (.cons rfl (.cons rfl (.cons rfl (.cons rfl (.cons rfl (.cons rfl (.cons rfl (.nil _)))))))))) ?_
      refine cd_seq ?_
      refine cd_region ?_
      refine st (ev_assign rfl) rfl rfl rfl ?_
      refine op_nil ?_
      refine ax_then ?_
      refine At.regs (L' := [(2, _), (3, _), (5, _), (6, _), (7, _), (8, _), (9, _), (17, _), (18, _), (19, _)]) (.cons rfl (.cons rfl (.cons rfl (.cons rfl (.cons rfl (.cons rfl (.cons rfl (.cons rfl (.cons rfl (.cons rfl (.nil _))))))))))) ?_
      refine cd_block ?_
      refine at_eq (i := 7) (v' := .bool (decide (Qm.fnd body ms ks i (0)))) rfl (congrArg Value.bool (decide_eq_decide.2 (Qm.fnd_zero body ms ks i).symm)) ?_
      refine at_heq (i := 5) (v' := .own (u) 55 32 (flat (Qm.lw body ms ks (i) (0)))) rfl (by rw [Qm.lw_zero]) ?_
      refine cd_loop (ι := Nat × Value) (fun y => y.1 ≤ ms.length ∧ y.1 ≤ 4) (fun y => ms.length - y.1)
          (fun y => [(2, .pointer (some ⟨b2, 0, none⟩)), (3, .pointer (some ⟨b3, 0, none⟩)), (5, y.2), (6, .int .i64 (i : Int)), (7, .bool (decide (Qm.fnd body ms ks i (y.1)))), (9, .int .i64 (y.1 : Int))])
          (fun y => [(5, .own (y.2) 55 32 (flat (Qm.lw body ms ks (i) (y.1))))])
          (fun y => [(2, .mem b2 0 [pb, mv]), (3, .mem b3 0 [kv, .int .i64 need]), (20, .sl (kv) 32 (flat (ks))), (21, .sl (mv) 35 (Qm.mflat (ms))), (22, .sl (pb) 1 (ints .u8 (body)))])
          (0, u) (⟨by show 0 ≤ ms.length; omega, by show 0 ≤ 4; omega⟩) (.cons rfl (.cons rfl (.cons rfl (.cons rfl (.cons rfl (.cons rfl (.nil _))))))) (.cons rfl (.nil _)) (.cons rfl (.cons rfl (.cons rfl (.cons rfl (.cons rfl (.nil _)))))) (fun y hi => ?_)
      obtain ⟨j, v⟩ := y
      dsimp only at hi ⊢
      have hi3 := hi
      have e1 : (j : Int).toNat = j := by omega
      have hlw := Qm.lw_h32 (body := body) (ms := ms) (j := j) hu hlt1
      have hl32 := hlw.1
      have hll := hlw.2
      refine cd_seq ?_
      refine cd_seq ?_
      refine cd_region ?_
      refine st (ev_move rfl) rfl rfl rfl ?_
      refine st (ev_fieldAddr (b := _) Try.underlying31 (f := _) rfl ty29 (by decide) rfl) rfl rfl rfl ?_
      refine st (ld_mem1 (h := 2) ty29 rfl rfl rfl (Nat.zero_add _).symm rfl) rfl rfl rfl ?_
      refine st (ev_len_rd (h := 21) (n := ms.length) Try.underlying29 rfl rfl (Qm.mflat_len ha) (by decide)) rfl rfl rfl ?_
      refine st (ev_lss rfl rfl) rfl rfl rfl ?_
      refine st (ev_move rfl) rfl rfl rfl ?_
      refine at_split_if (i := 41) rfl (fun hg41 => ?_) (fun hg41 => ?_)
      ·
        refine st (ev_move rfl) rfl rfl rfl ?_
        refine st (ev_lss rfl rfl) rfl rfl rfl ?_
        refine st (ev_pick_t rfl rfl) rfl rfl rfl ?_
        refine st (ev_move rfl) rfl rfl rfl ?_
        refine at_split_if (i := 45) rfl (fun hg45 => ?_) (fun hg45 => ?_)
        ·
          refine st (ev_move rfl) rfl rfl rfl ?_
          refine st (ev_not_if rfl) rfl rfl rfl ?_
          refine st (ev_pick_t rfl rfl) rfl rfl rfl ?_
          refine op_nil ?_
          refine ax_then ?_
          refine At.regs (L' := [(2, _), (3, _), (5, _), (6, _), (7, _), (9, _), (36, _), (37, _), (38, _), (39, _), (40, _), (41, _), (42, _), (43, _), (44, _), (45, _), (46, _), (47, _), (48, _)]) (.cons rfl (.cons rfl (.cons rfl (.cons rfl (.cons rfl (.cons rfl (.cons rfl (.cons rfl (.cons rfl (.cons rfl (.cons rfl (.cons rfl (.cons rfl (.cons rfl (.cons rfl (.cons rfl (.cons rfl (.cons rfl (.cons rfl (.nil _)))))))))))))))))))) ?_
          refine cd_if rfl (fun hc48 => ?_) (fun hc48 => ?_)
          ·
            have hnf : ¬ Qm.fnd body ms ks i j := hc48
            have hlt : j < ms.length := by omega
            have hxo := ha ms[j] (List.getElem_mem hlt)
            have hxk := hxo.1
            refine cd_skip ?_
            refine ax_then ?_
            refine At.regs (L' := [(2, _), (3, _), (5, _), (6, _), (7, _), (9, _), (36, _), (37, _), (38, _), (39, _), (40, _), (41, _), (42, _), (43, _), (44, _), (45, _), (46, _), (47, _), (48, _)]) (.cons rfl (.cons rfl (.cons rfl (.cons rfl (.cons rfl (.cons rfl (.cons rfl (.cons rfl (.cons rfl (.cons rfl (.cons rfl (.cons rfl (.cons rfl (.cons rfl (.cons rfl (.cons rfl (.cons rfl (.cons rfl (.cons rfl (.nil _)))))))))))))))))))) ?_
            refine cd_join (ι := Value) (fun z => True) (fun z => [(2, .pointer (some ⟨b2, 0, none⟩)), (3, .pointer (some ⟨b3, 0, none⟩)), (5, z), (6, .int .i64 (i : Int)), (7, .bool (decide (Qm.fnd body ms ks i (j + 1)))), (9, .int .i64 (j : Int))]) (fun z => [(5, .own (z) 55 32 (flat (Qm.lw body ms ks (i) (j + 1))))]) (fun z => [(2, .mem b2 0 [pb, mv]), (3, .mem b3 0 [kv, .int .i64 need]), (20, .sl (kv) 32 (flat (ks))), (21, .sl (mv) 35 (Qm.mflat (ms))), (22, .sl (pb) 1 (ints .u8 (body)))]) ?_ (fun z hj => ?_)
            ·
              refine cd_block ?_
              refine cd_seq ?_
              refine cd_mix hmix ?_
              refine mx (i := 0) rfl (by decide +kernel) (by decide +kernel) (by decide +kernel) rfl (fun w0 => ev_fieldAddr (b := _) Try.underlying31 (f := _) rfl ty29 (by decide) rfl) rfl rfl (Sub.refl _) ?_
              refine mx (i := 1) rfl (by decide +kernel) (by decide +kernel) (by decide +kernel) rfl (fun w0 => ld_mem1 (h := 2) ty29 rfl rfl rfl (Nat.zero_add _).symm rfl) rfl rfl (Sub.refl _) ?_
              refine mx (i := 2) rfl (by decide +kernel) (by decide +kernel) (by decide +kernel) rfl (fun w0 => ev_move rfl) rfl rfl (Sub.refl _) ?_
              refine mx (i := 3) rfl (by decide +kernel) (by decide +kernel) (by decide +kernel) rfl (fun w0 => ev_indexAddr_rd (h := 21) (n := ms.length) Try.underlying29 ty82 rfl rfl rfl (Qm.mflat_len ha) (by decide) (by omega) (by omega)) rfl rfl (Sub.refl _) ?_
              refine mx (i := 4) rfl (by decide +kernel) (by decide +kernel) (by decide +kernel) rfl (fun w0 => ev_fieldIn (n := 0) (k := (j : Int).toNat * 35) Try.underlying82 rfl rfl rfl (fun w1 sw => sw.sl_rd (h := 21) rfl) (by rw [hmf, e1]; omega) (fun b off hx => ev_fieldAddr (b := _) Try.underlying82 (f := _) rfl ty55 (by decide) hx)) rfl rfl (Sub.refl _) ?_
              refine mx (i := 5) rfl (by decide +kernel) (by decide +kernel) (by decide +kernel) rfl (fun w0 => ld_rd (k := (j : Int).toNat * 35 + 0) (h := 21) ty55 rfl rfl rfl (by decide) (by rw [hmf, e1]; omega)) rfl rfl (Sub.refl _) ?_
              refine at_eq (i := 56) (v' := .agg (ints .u8 (ms[j].key)).toArray) rfl (congrArg (fun x => Value.agg (List.toArray x)) (by rw [e1]; exact Qm.mflat_key ha hlt)) ?_
              refine mx (i := 6) rfl (by decide +kernel) (by decide +kernel) (by decide +kernel) rfl (fun w0 => ev_fieldAddr (b := _) Try.underlying24 (f := _) rfl ty22 (by decide) rfl) rfl rfl (Sub.refl _) ?_
              refine mx (i := 7) rfl (by decide +kernel) (by decide +kernel) (by decide +kernel) rfl (fun w0 => ld_mem1 (h := 3) ty22 rfl rfl rfl (Nat.zero_add _).symm rfl) rfl rfl (Sub.refl _) ?_
              refine mx (i := 8) rfl (by decide +kernel) (by decide +kernel) (by decide +kernel) rfl (fun w0 => ev_move rfl) rfl rfl (Sub.refl _) ?_
              refine mx (i := 9) rfl (by decide +kernel) (by decide +kernel) (by decide +kernel) rfl (fun w0 => ev_indexAddr_rdh (h := 20) Try.underlying22 ty55 rfl rfl rfl (by assumption) (by omega) (by omega)) rfl rfl (Sub.refl _) ?_
              refine mx (i := 10) rfl (by decide +kernel) (by decide +kernel) (by decide +kernel) rfl (fun w0 => ld_rdh (h := 20) ty55 rfl rfl rfl (by assumption) (by omega)) rfl rfl (Sub.refl _) ?_
              refine at_eq (i := 61) (v' := .agg (ints .u8 (ks.getD i [])).toArray) rfl (by rw [e0]) ?_
              refine mx (i := 11) rfl (by decide +kernel) (by decide +kernel) (by decide +kernel) rfl (fun w0 => ev_eql_arr Try.underlying55 ty5 eqg55 rfl rfl (by first | omega | (simp only [List.length_append, List.length_cons, List.length_nil, List.length_set, List.length_replicate, List.length_take, List.length_drop, ints_length, wr_length, sha_len, node_len, recov_len, Ky.named_len, Ky.keyPub_len] <;> omega) | rfl) (by first | omega | (simp only [List.length_append, List.length_cons, List.length_nil, List.length_set, List.length_replicate, List.length_take, List.length_drop, ints_length, wr_length, sha_len, node_len, recov_len, Ky.named_len, Ky.keyPub_len] <;> omega) | rfl)) rfl rfl (Sub.refl _) ?_
              refine mx (i := 12) rfl (by decide +kernel) (by decide +kernel) (by decide +kernel) rfl (fun w0 => ev_move rfl) rfl rfl (Sub.refl _) ?_
              refine at_split_if (i := 63) rfl (fun hg63 => ?_) (fun hg63 => ?_)
              ·
                refine mx (i := 13) rfl (by decide +kernel) (by decide +kernel) (by decide +kernel) rfl (fun w0 => ev_fieldAddr (b := _) Try.underlying24 (f := _) rfl ty22 (by decide) rfl) rfl rfl (Sub.refl _) ?_
                refine mx (i := 14) rfl (by decide +kernel) (by decide +kernel) (by decide +kernel) rfl (fun w0 => ld_mem1 (h := 3) ty22 rfl rfl rfl (Nat.zero_add _).symm rfl) rfl rfl (Sub.refl _) ?_
                refine mx (i := 15) rfl (by decide +kernel) (by decide +kernel) (by decide +kernel) rfl (fun w0 => ev_move rfl) rfl rfl (Sub.refl _) ?_
                refine mx (i := 16) rfl (by decide +kernel) (by decide +kernel) (by decide +kernel) rfl (fun w0 => ev_indexAddr_rdh (h := 20) Try.underlying22 ty55 rfl rfl rfl (by assumption) (by omega) (by omega)) rfl rfl (Sub.refl _) ?_
                refine mx (i := 17) rfl (by decide +kernel) (by decide +kernel) (by decide +kernel) rfl (fun w0 => ld_rdh (h := 20) ty55 rfl rfl rfl (by assumption) (by omega)) rfl rfl (Sub.refl _) ?_
                refine at_eq (i := 68) (v' := .agg (ints .u8 (ks.getD i [])).toArray) rfl (by rw [e0]) ?_
                refine mx (i := 18) rfl (by decide +kernel) (by decide +kernel) (by decide +kernel) rfl (fun w0 => ev_fieldAddr (b := _) Try.underlying31 (f := _) rfl ty28 (by decide) rfl) rfl rfl (Sub.refl _) ?_
                refine mx (i := 19) rfl (by decide +kernel) (by decide +kernel) (by decide +kernel) rfl (fun w0 => ld_mem1 (h := 2) ty28 rfl rfl rfl (Nat.zero_add _).symm rfl) rfl rfl (Sub.refl _) ?_
                refine mx (i := 20) rfl (by decide +kernel) (by decide +kernel) (by decide +kernel) rfl (fun w0 => ev_fieldAddr (b := _) Try.underlying31 (f := _) rfl ty29 (by decide) rfl) rfl rfl (Sub.refl _) ?_
                refine mx (i := 21) rfl (by decide +kernel) (by decide +kernel) (by decide +kernel) rfl (fun w0 => ld_mem1 (h := 2) ty29 rfl rfl rfl (Nat.zero_add _).symm rfl) rfl rfl (Sub.refl _) ?_
                refine mx (i := 22) rfl (by decide +kernel) (by decide +kernel) (by decide +kernel) rfl (fun w0 => ev_move rfl) rfl rfl (Sub.refl _) ?_
                refine mx (i := 23) rfl (by decide +kernel) (by decide +kernel) (by decide +kernel) rfl (fun w0 => ev_indexAddr_rd (h := 21) (n := ms.length) Try.underlying29 ty82 rfl rfl rfl (Qm.mflat_len ha) (by decide) (by omega) (by omega)) rfl rfl (Sub.refl _) ?_
                refine mx (i := 24) rfl (by decide +kernel) (by decide +kernel) (by decide +kernel) rfl (fun w0 => ev_fieldIn (n := 0) (k := (j : Int).toNat * 35) Try.underlying82 rfl rfl rfl (fun w1 sw => sw.sl_rd (h := 21) rfl) (by rw [hmf, e1]; omega) (fun b off hx => ev_fieldAddr (b := _) Try.underlying82 (f := _) rfl ty80 (by decide) hx)) rfl rfl (Sub.refl _) ?_
                refine mx (i := 25) rfl (by decide +kernel) (by decide +kernel) (by decide +kernel) rfl (fun w0 => ld_rd (k := (j : Int).toNat * 35 + 32) (h := 21) ty80 rfl rfl rfl (by decide) (by rw [hmf, e1]; omega)) rfl rfl (Sub.refl _) ?_
                refine at_eq (i := 76) (v' := .agg (List.toArray [.int .i64 ms[j].leaf, ms[j].vc, ms[j].vp])) rfl (congrArg (fun x => Value.agg (List.toArray x)) (by rw [e1]; exact Qm.mflat_sig ha hlt)) ?_
                refine mx_one (i := 26) (by decide +kernel) (Sub.refl _) ?_
                refine wo (i := 26) rfl ?_
                refine st_callv has94 rfl (fun w1 sw => rverify_any (ks.getD i []) pb body ms[j].leaf ms[j].vc ms[j].vp ms[j].cs ms[j].ps w1 (by omega) hbl hxo.2.1 hxo.2.2.1 hxo.2.2.2.1 hxo.2.2.2.2 (sw.sl_rd (h := 22) rfl) ((Qm.Keeps.of sw).mrd (hmr ms[j] (List.getElem_mem hlt))).1 ((Qm.Keeps.of sw).mrd (hmr ms[j] (List.getElem_mem hlt))).2) rfl rfl ?_
                refine op_nil ?_
                refine ax_then ?_
                refine mx (i := 27) rfl (by decide +kernel) (by decide +kernel) (by decide +kernel) rfl (fun w0 => ev_pick_t rfl rfl) rfl rfl (Sub.refl _) ?_
                refine mx_done (by decide +kernel) (Sub.refl _) ?_
                refine ax_then ?_
                refine At.regs (L' := [(2, _), (3, _), (5, _), (6, _), (7, _), (9, _), (36, _), (37, _), (38, _), (39, _), (40, _), (41, _), (42, _), (43, _), (44, _), (45, _), (46, _), (47, _), (48, _), (51, _), (52, _), (53, _), (54, _), (55, _), (56, _), (57, _), (58, _), (59, _), (60, _), (61, _), (62, _), (63, _), (64, _), (65, _), (66, _), (67, _), (68, _), (69, _), (70, _), (71, _), (72, _), (73, _), (74, _), (75, _), (76, _), (77, _), (78, _)]) (.cons rfl (.cons rfl (.cons rfl (.cons rfl (.cons rfl (.cons rfl (.cons rfl (.cons rfl (.cons rfl (.cons rfl (.cons rfl (.cons rfl (.cons rfl (.cons rfl (.cons rfl (.cons rfl (.cons rfl (.cons rfl (.cons rfl (.cons rfl (.cons rfl (.cons rfl (.cons rfl (.cons rfl (.cons rfl (.cons rfl (.cons rfl (.cons rfl (.cons rfl (.cons rfl (.cons rfl (.cons rfl (.cons rfl (.cons rfl (.cons rfl (.cons rfl (.cons rfl (.cons rfl (.cons rfl (.cons rfl (.cons rfl (.cons rfl (.cons rfl (.cons rfl (.cons rfl (.cons rfl (.cons rfl (.nil _)))))))))))))))))))))))))))))))))))))))))))))))) ?_
                refine cd_if rfl (fun hc78 => ?_) (fun hc78 => ?_)
                ·
                  refine cd_seq ?_
                  refine cd_region ?_
                  refine st (ev_move rfl) rfl rfl rfl ?_
                  refine st (ev_fieldAddr (b := _) Try.underlying24 (f := _) rfl ty22 (by decide) rfl) rfl rfl rfl ?_
                  refine st (ld_mem1 (h := 3) ty22 rfl rfl rfl (Nat.zero_add _).symm rfl) rfl rfl rfl ?_
                  refine st (ev_move rfl) rfl rfl rfl ?_
                  refine st (ev_indexAddr_rdh (h := 20) Try.underlying22 ty55 rfl rfl rfl (by assumption) (by omega) (by omega)) rfl rfl rfl ?_
                  refine st (ld_rdh (h := 20) ty55 rfl rfl rfl (by assumption) (by omega)) rfl rfl rfl ?_
                  refine at_eq (i := 84) (v' := .agg (ints .u8 (ks.getD i [])).toArray) rfl (by rw [e0]) ?_
                  refine st_bsh1 (h := 85) Try.underlying22 ty55 rfl (by first | assumption | omega) rfl rfl (fun b85 hu85 => ?_)
                  refine st_appendh (h := 5) Try.underlying22 Try.underlying22 ty55 rfl rfl rfl rfl (fun w1 sw => sw.own_rd (h := 85) rfl) (by assumption) (by assumption) (by first | omega | (simp only [List.length_append, List.length_cons, List.length_nil, List.length_set, List.length_replicate, List.length_take, List.length_drop, ints_length, wr_length, sha_len, node_len, recov_len, Ky.named_len, Ky.keyPub_len] <;> omega)) (by decide) rfl rfl (fun v86 hu86 => ?_)
                  refine st (ev_assign rfl) rfl rfl rfl ?_
                  refine op_nil ?_
                  refine ax_then ?_
                  refine At.regs (L' := [(2, _), (3, _), (5, _), (6, _), (7, _), (9, _), (36, _), (37, _), (38, _), (39, _), (40, _), (41, _), (42, _), (43, _), (44, _), (45, _), (46, _), (47, _), (48, _), (51, _), (52, _), (53, _), (54, _), (55, _), (56, _), (57, _), (58, _), (59, _), (60, _), (61, _), (62, _), (63, _), (64, _), (65, _), (66, _), (67, _), (68, _), (69, _), (70, _), (71, _), (72, _), (73, _), (74, _), (75, _), (76, _), (77, _), (78, _), (79, _), (80, _), (81, _), (82, _), (83, _), (84, _), (85, _), (86, _)]) (.cons rfl (.cons rfl (.cons rfl (.cons rfl (.cons rfl (.cons rfl (.cons rfl (.cons rfl (.cons rfl (.cons rfl (.cons rfl (.cons rfl (.cons rfl (.cons rfl (.cons rfl (.cons rfl (.cons rfl (.cons rfl (.cons rfl (.cons rfl (.cons rfl (.cons rfl (.cons rfl (.cons rfl (.cons rfl (.cons rfl (.cons rfl (.cons rfl (.cons rfl (.cons rfl (.cons rfl (.cons rfl (.cons rfl (.cons rfl (.cons rfl (.cons rfl (.cons rfl (.cons rfl (.cons rfl (.cons rfl (.cons rfl (.cons rfl (.cons rfl (.cons rfl (.cons rfl (.cons rfl (.cons rfl (.cons rfl (.cons rfl (.cons rfl (.cons rfl (.cons rfl (.cons rfl (.cons rfl (.cons rfl (.nil _)))))))))))))))))))))))))))))))))))))))))))))))))))))))) ?_
                  refine cd_region ?_
                  refine st (ev_assign rfl) rfl rfl rfl ?_
                  refine op_nil ?_
                  refine ax_block ?_
                  have hh := Qm.lw_hit hnf hlt ⟨hg63, hc78⟩
                  refine ax_heq (i := 5) (v' := .own (v86) 55 32 (flat (Qm.lw body ms ks (i) (j + 1)))) rfl (by rw [hh.1]) ?_
                  refine ax_eq (i := 7) (v' := .bool (decide (Qm.fnd body ms ks i (j + 1)))) rfl (congrArg Value.bool ((decide_eq_true hh.2).symm)) ?_
                  exact at_met (v86) (trivial) (.cons rfl (.cons rfl (.cons rfl (.cons rfl (.cons rfl (.cons rfl (.nil _))))))) (.cons rfl (.nil _)) (.cons rfl (.cons rfl (.cons rfl (.cons rfl (.cons rfl (.nil _))))))
                ·
                  refine cd_skip ?_
                  refine ax_block ?_
                  have hh := Qm.lw_miss (body := body) (ks := ks) (i := i) hlt (fun hx => hc78 hx.2)
                  refine ax_heq (i := 5) (v' := .own (v) 55 32 (flat (Qm.lw body ms ks (i) (j + 1)))) rfl (by rw [hh.1]) ?_
                  refine ax_eq (i := 7) (v' := .bool (decide (Qm.fnd body ms ks i (j + 1)))) rfl (congrArg Value.bool (decide_eq_decide.2 hh.2.symm)) ?_
                  exact at_met (v) (trivial) (.cons rfl (.cons rfl (.cons rfl (.cons rfl (.cons rfl (.cons rfl (.nil _))))))) (.cons rfl (.nil _)) (.cons rfl (.cons rfl (.cons rfl (.cons rfl (.cons rfl (.nil _))))))
              ·
                refine mx_skip (i := 13) rfl (by decide +kernel) (by decide +kernel) (by decide +kernel) rfl rfl rfl (Sub.refl _) ?_
                refine mx_skip (i := 14) rfl (by decide +kernel) (by decide +kernel) (by decide +kernel) rfl rfl rfl (Sub.refl _) ?_
                refine mx_skip (i := 15) rfl (by decide +kernel) (by decide +kernel) (by decide +kernel) rfl rfl rfl (Sub.refl _) ?_
                refine mx_skip (i := 16) rfl (by decide +kernel) (by decide +kernel) (by decide +kernel) rfl rfl rfl (Sub.refl _) ?_
                refine mx_skip (i := 17) rfl (by decide +kernel) (by decide +kernel) (by decide +kernel) rfl rfl rfl (Sub.refl _) ?_
                refine mx_skip (i := 18) rfl (by decide +kernel) (by decide +kernel) (by decide +kernel) rfl rfl rfl (Sub.refl _) ?_
                refine mx_skip (i := 19) rfl (by decide +kernel) (by decide +kernel) (by decide +kernel) rfl rfl rfl (Sub.refl _) ?_
                refine mx_skip (i := 20) rfl (by decide +kernel) (by decide +kernel) (by decide +kernel) rfl rfl rfl (Sub.refl _) ?_
                refine mx_skip (i := 21) rfl (by decide +kernel) (by decide +kernel) (by decide +kernel) rfl rfl rfl (Sub.refl _) ?_
                refine mx_skip (i := 22) rfl (by decide +kernel) (by decide +kernel) (by decide +kernel) rfl rfl rfl (Sub.refl _) ?_
                refine mx_skip (i := 23) rfl (by decide +kernel) (by decide +kernel) (by decide +kernel) rfl rfl rfl (Sub.refl _) ?_
                refine mx_skip (i := 24) rfl (by decide +kernel) (by decide +kernel) (by decide +kernel) rfl rfl rfl (Sub.refl _) ?_
                refine mx_skip (i := 25) rfl (by decide +kernel) (by decide +kernel) (by decide +kernel) rfl rfl rfl (Sub.refl _) ?_
                refine mx_skip (i := 26) rfl (by decide +kernel) (by decide +kernel) (by decide +kernel) rfl rfl rfl (Sub.refl _) ?_
                refine mx (i := 27) rfl (by decide +kernel) (by decide +kernel) (by decide +kernel) rfl (fun w0 => ev_pick_f rfl rfl) rfl rfl (Sub.refl _) ?_
                refine mx_done (by decide +kernel) (Sub.refl _) ?_
                refine ax_then ?_
                refine At.regs (L' := [(2, _), (3, _), (5, _), (6, _), (7, _), (9, _), (36, _), (37, _), (38, _), (39, _), (40, _), (41, _), (42, _), (43, _), (44, _), (45, _), (46, _), (47, _), (48, _), (51, _), (52, _), (53, _), (54, _), (55, _), (56, _), (57, _), (58, _), (59, _), (60, _), (61, _), (62, _), (63, _), (64, _), (65, _), (66, _), (67, _), (68, _), (69, _), (70, _), (71, _), (72, _), (73, _), (74, _), (75, _), (76, _), (77, _), (78, _)]) (.cons rfl (.cons rfl (.cons rfl (.cons rfl (.cons rfl (.cons rfl (.cons rfl (.cons rfl (.cons rfl (.cons rfl (.cons rfl (.cons rfl (.cons rfl (.cons rfl (.cons rfl (.cons rfl (.cons rfl (.cons rfl (.cons rfl (.cons rfl (.cons rfl (.cons rfl (.cons rfl (.cons rfl (.cons rfl (.cons rfl (.cons rfl (.cons rfl (.cons rfl (.cons rfl (.cons rfl (.cons rfl (.cons rfl (.cons rfl (.cons rfl (.cons rfl (.cons rfl (.cons rfl (.cons rfl (.cons rfl (.cons rfl (.cons rfl (.cons rfl (.cons rfl (.cons rfl (.cons rfl (.cons rfl (.nil _)))))))))))))))))))))))))))))))))))))))))))))))) ?_
                refine cd_false rfl ?_
                refine cd_skip ?_
                refine ax_block ?_
                have hh := Qm.lw_miss (body := body) (ks := ks) (i := i) hlt (fun hx => hg63 hx.1)
                refine ax_heq (i := 5) (v' := .own (v) 55 32 (flat (Qm.lw body ms ks (i) (j + 1)))) rfl (by rw [hh.1]) ?_
                refine ax_eq (i := 7) (v' := .bool (decide (Qm.fnd body ms ks i (j + 1)))) rfl (congrArg Value.bool (decide_eq_decide.2 hh.2.symm)) ?_
                exact at_met (v) (trivial) (.cons rfl (.cons rfl (.cons rfl (.cons rfl (.cons rfl (.cons rfl (.nil _))))))) (.cons rfl (.nil _)) (.cons rfl (.cons rfl (.cons rfl (.cons rfl (.cons rfl (.nil _))))))
            ·
              refine cd_region ?_
              refine st (ev_move rfl) rfl rfl rfl ?_
              refine st (ev_add64 rfl rfl (by omega) (by omega)) rfl rfl rfl ?_
              refine st (ev_assign rfl) rfl rfl rfl ?_
              refine op_nil ?_
              exact at_again ((j + 1, z)) (⟨by show j + 1 ≤ ms.length; omega, by show j + 1 ≤ 4; omega⟩) (by omega) (.cons rfl (.cons rfl (.cons rfl (.cons rfl (.cons rfl (.cons rfl (.nil _))))))) (.cons rfl (.nil _)) (.cons rfl (.cons rfl (.cons rfl (.cons rfl (.cons rfl (.nil _))))))
          ·
            refine cd_exit ?_
            refine ax_then_exit ?_
            refine ax_then_exit ?_
            refine ax_block_hit ?_
            refine ax_block ?_
            refine ax_then ?_
            refine At.regs (L' := [(2, _), (3, _), (5, _), (6, _), (7, _), (9, _), (36, _), (37, _), (38, _), (39, _), (40, _), (41, _), (42, _), (43, _), (44, _), (45, _), (46, _), (47, _), (48, _)]) (.cons rfl (.cons rfl (.cons rfl (.cons rfl (.cons rfl (.cons rfl (.cons rfl (.cons rfl (.cons rfl (.cons rfl (.cons rfl (.cons rfl (.cons rfl (.cons rfl (.cons rfl (.cons rfl (.cons rfl (.cons rfl (.cons rfl (.nil _)))))))))))))))))))) ?_
            refine cd_region ?_
            refine st (ev_move rfl) rfl rfl rfl ?_
            refine st (ev_add64 rfl rfl (by omega) (by omega)) rfl rfl rfl ?_
            refine st (ev_assign rfl) rfl rfl rfl ?_
            refine op_nil ?_
            refine ax_heq (i := 5) (v' := .own (v) 55 32 (flat (Qm.who body ms (ks.take (i + 1))))) rfl (by rw [Qm.lw_end hlt1 hi3.2 (by first | exact .inl (by omega) | exact .inr (.inl (by omega)) | exact .inr (.inr (Classical.not_not.1 hc48)))]) ?_
            exact at_again ((i + 1, v)) (by show i + 1 ≤ ks.length; omega) (by omega) (.cons rfl (.cons rfl (.cons rfl (.cons rfl (.nil _))))) (.cons rfl (.nil _)) (.cons rfl (.cons rfl (.cons rfl (.cons rfl (.cons rfl (.nil _))))))
        ·
          refine st_skip rfl rfl rfl ?_
          refine st_skip rfl rfl rfl ?_
          refine st (ev_pick_f rfl rfl) rfl rfl rfl ?_
          refine op_nil ?_
          refine ax_then ?_
          refine At.regs (L' := [(2, _), (3, _), (5, _), (6, _), (7, _), (9, _), (36, _), (37, _), (38, _), (39, _), (40, _), (41, _), (42, _), (43, _), (44, _), (45, _), (46, _), (47, _), (48, _)]) (.cons rfl (.cons rfl (.cons rfl (.cons rfl (.cons rfl (.cons rfl (.cons rfl (.cons rfl (.cons rfl (.cons rfl (.cons rfl (.cons rfl (.cons rfl (.cons rfl (.cons rfl (.cons rfl (.cons rfl (.cons rfl (.cons rfl (.nil _)))))))))))))))))))) ?_
          refine cd_false rfl ?_
          refine cd_exit ?_
          refine ax_then_exit ?_
          refine ax_then_exit ?_
          refine ax_block_hit ?_
          refine ax_block ?_
          refine ax_then ?_
          refine At.regs (L' := [(2, _), (3, _), (5, _), (6, _), (7, _), (9, _), (36, _), (37, _), (38, _), (39, _), (40, _), (41, _), (42, _), (43, _), (44, _), (45, _), (46, _), (47, _), (48, _)]) (.cons rfl (.cons rfl (.cons rfl (.cons rfl (.cons rfl (.cons rfl (.cons rfl (.cons rfl (.cons rfl (.cons rfl (.cons rfl (.cons rfl (.cons rfl (.cons rfl (.cons rfl (.cons rfl (.cons rfl (.cons rfl (.cons rfl (.nil _)))))))))))))))))))) ?_
          refine cd_region ?_
          refine st (ev_move rfl) rfl rfl rfl ?_
          refine st (ev_add64 rfl rfl (by omega) (by omega)) rfl rfl rfl ?_
          refine st (ev_assign rfl) rfl rfl rfl ?_
          refine op_nil ?_
          refine ax_heq (i := 5) (v' := .own (v) 55 32 (flat (Qm.who body ms (ks.take (i + 1))))) rfl (by rw [Qm.lw_end hlt1 hi3.2 (by first | exact .inl (by omega) | exact .inr (.inl (by omega)) | exact .inr (.inr (Classical.not_not.1 hc48)))]) ?_
          exact at_again ((i + 1, v)) (by show i + 1 ≤ ks.length; omega) (by omega) (.cons rfl (.cons rfl (.cons rfl (.cons rfl (.nil _))))) (.cons rfl (.nil _)) (.cons rfl (.cons rfl (.cons rfl (.cons rfl (.cons rfl (.nil _))))))
      ·
        refine st_skip rfl rfl rfl ?_
        refine st_skip rfl rfl rfl ?_
        refine st (ev_pick_f rfl rfl) rfl rfl rfl ?_
        refine st (ev_move rfl) rfl rfl rfl ?_
        refine st_skip rfl rfl rfl ?_
        refine st_skip rfl rfl rfl ?_
        refine st (ev_pick_f rfl rfl) rfl rfl rfl ?_
        refine op_nil ?_
        refine ax_then ?_
        refine At.regs (L' := [(2, _), (3, _), (5, _), (6, _), (7, _), (9, _), (36, _), (37, _), (38, _), (39, _), (40, _), (41, _), (42, _), (43, _), (44, _), (45, _), (46, _), (47, _), (48, _)]) (.cons rfl (.cons rfl (.cons rfl (.cons rfl (.cons rfl (.cons rfl (.cons rfl (.cons rfl (.cons rfl (.cons rfl (.cons rfl (.cons rfl (.cons rfl (.cons rfl (.cons rfl (.cons rfl (.cons rfl (.cons rfl (.cons rfl (.nil _)))))))))))))))))))) ?_
        refine cd_false rfl ?_
        refine cd_exit ?_
        refine ax_then_exit ?_
        refine ax_then_exit ?_
        refine ax_block_hit ?_
        refine ax_block ?_
        refine ax_then ?_
        refine At.regs (L' := [(2, _), (3, _), (5, _), (6, _), (7, _), (9, _), (36, _), (37, _), (38, _), (39, _), (40, _), (41, _), (42, _), (43, _), (44, _), (45, _), (46, _), (47, _), (48, _)]) (.cons rfl (.cons rfl (.cons rfl (.cons rfl (.cons rfl (.cons rfl (.cons rfl (.cons rfl (.cons rfl (.cons rfl (.cons rfl (.cons rfl (.cons rfl (.cons rfl (.cons rfl (.cons rfl (.cons rfl (.cons rfl (.cons rfl (.nil _)))))))))))))))))))) ?_
        refine cd_region ?_
        refine st (ev_move rfl) rfl rfl rfl ?_
        refine st (ev_add64 rfl rfl (by omega) (by omega)) rfl rfl rfl ?_
        refine st (ev_assign rfl) rfl rfl rfl ?_
        refine op_nil ?_
        refine ax_heq (i := 5) (v' := .own (v) 55 32 (flat (Qm.who body ms (ks.take (i + 1))))) rfl (by rw [Qm.lw_end hlt1 hi3.2 (by first | exact .inl (by omega) | exact .inr (.inl (by omega)) | exact .inr (.inr (Classical.not_not.1 hc48)))]) ?_
        exact at_again ((i + 1, v)) (by show i + 1 ≤ ks.length; omega) (by omega) (.cons rfl (.cons rfl (.cons rfl (.cons rfl (.nil _))))) (.cons rfl (.nil _)) (.cons rfl (.cons rfl (.cons rfl (.cons rfl (.cons rfl (.nil _))))))
  ·
    obtain rfl : i = ks.length := by omega
    refine at_heq (i := 5) (v' := .own (u) 55 32 (flat (Qm.who body ms ks))) rfl (by rw [List.take_length]) ?_
    refine cd_exit ?_
    refine ax_then_exit ?_
    refine ax_then_exit ?_
    refine ax_block_hit ?_
    refine ax_then ?_
    refine At.regs (L' := [(5, _)]) (.cons rfl (.nil _)) ?_
    refine cd_seq ?_
    refine cd_region ?_
    refine st (ev_move rfl) rfl rfl rfl ?_
    refine st (ev_assign rfl) rfl rfl rfl ?_
    refine op_nil ?_
    refine ax_then ?_
    refine At.regs (L' := [(4, _)]) (.cons rfl (.nil _)) ?_
    refine cd_ret ?_
    refine rt_tmp (.inl rfl) Try.results64 rfl ?_
    exact fun w1 sw => ⟨u, trivial, rfl, (sw.gives (N := [(5, _)]) (.cons rfl (.nil _))).rn 0⟩
set_option maxRecDepth 20000 in
set_option maxHeartbeats 2000000 in
theorem rmeets_any (pb mv kv : Value) (need : Int) (body : List Int) (ms : List Qm.Mark) (ks : List (List Int)) (w : World) (hbody : Rd w pb 1 (ints .u8 body)) (hbl : body.length ≤ 140737488352000) (ha : Qm.AOk ms) (hml : ms.length ≤ 1000000) (hm : Rd w mv 35 (Qm.mflat ms)) (hmr : ∀ x, x ∈ ms → Qm.MRd w x) (hu : H32 ks) (hkl : ks.length ≤ 1000000) (hk : Rd w kv 32 (flat ks)) : Calls Try.prog 34 #[.agg (List.toArray [pb, mv]), .agg (List.toArray [kv, .int .i64 need])] w (PostV w (.bool (decide (meets body ms ks need)))) := by
  refine calls_at (vs := [.agg (List.toArray [pb, mv]), .agg (List.toArray [kv, .int .i64 need])]) (X := []) (H := []) (F := [(22, .sl (pb) 1 (ints .u8 (body))), (21, .sl (mv) 35 (Qm.mflat (ms))), (20, .sl (kv) 32 (flat (ks)))]) 16 Try.func34 rfl rfl rfl (((Sat.rd0 20 hk).more 21 hm).more 22 hbody) ?_
  refine cd_seq ?_
  refine cd_region ?_
  refine st_box (h := 2) rfl rfl rfl rfl (fun b2 => ?_)
  refine st_box (h := 3) rfl rfl rfl rfl (fun b3 => ?_)
  refine st (ev_assign rfl) rfl rfl rfl ?_
  refine op_nil ?_
  refine ax_then ?_
  refine At.regs (L' := [(2, _), (3, _), (4, _)]) (.cons rfl (.cons rfl (.cons rfl (.nil _)))) ?_
  refine cd_seq ?_
  refine at_freeze_blk (h := 2) (H' := [(3, _)]) 2 rfl (.cons rfl (.nil _)) rfl ?_
  refine at_freeze_blk (h := 3) (H' := []) 3 rfl (.nil _) rfl ?_
  refine cd_mix hmix ?_
  refine mx (i := 0) rfl (by decide +kernel) (by decide +kernel) (by decide +kernel) rfl (fun w0 => ld_mem_all (h := 3) ty24 rfl rfl rfl (by first | omega | (simp only [List.length_append, List.length_cons, List.length_nil, List.length_set, List.length_replicate, List.length_take, List.length_drop, ints_length, wr_length, sha_len, node_len, recov_len, Ky.named_len, Ky.keyPub_len] <;> omega) | rfl)) rfl rfl (Sub.refl _) ?_
  refine mx_one (i := 1) (by decide +kernel) (Sub.refl _) ?_
  refine wo (i := 1) rfl ?_
  refine st_callv has63 rfl (fun w1 sw => riskeys_any kv ks need w1 hu (by omega) (sw.sl_rd (h := 20) rfl)) rfl rfl ?_
  refine op_nil ?_
  refine ax_then ?_
  refine mx (i := 2) rfl (by decide +kernel) (by decide +kernel) (by decide +kernel) rfl (fun w0 => ev_move rfl) rfl rfl (Sub.refl _) ?_
  refine at_split_if (i := 7) rfl (fun hg7 => ?_) (fun hg7 => ?_)
  ·
    refine mx (i := 3) rfl (by decide +kernel) (by decide +kernel) (by decide +kernel) rfl (fun w0 => ld_mem_all (h := 2) ty31 rfl rfl rfl (by first | omega | (simp only [List.length_append, List.length_cons, List.length_nil, List.length_set, List.length_replicate, List.length_take, List.length_drop, ints_length, wr_length, sha_len, node_len, recov_len, Ky.named_len, Ky.keyPub_len] <;> omega) | rfl)) rfl rfl (Sub.refl _) ?_
    refine mx (i := 4) rfl (by decide +kernel) (by decide +kernel) (by decide +kernel) rfl (fun w0 => ld_mem_all (h := 3) ty24 rfl rfl rfl (by first | omega | (simp only [List.length_append, List.length_cons, List.length_nil, List.length_set, List.length_replicate, List.length_take, List.length_drop, ints_length, wr_length, sha_len, node_len, recov_len, Ky.named_len, Ky.keyPub_len] <;> omega) | rfl)) rfl rfl (Sub.refl _) ?_
    refine mx (i := 7) rfl (by decide +kernel) (by decide +kernel) (by decide +kernel) rfl (fun w0 => ev_fieldAddr (b := _) Try.underlying24 (f := _) rfl ty3 (by decide) rfl) rfl rfl (Sub.refl _) ?_
    refine mx (i := 8) rfl (by decide +kernel) (by decide +kernel) (by decide +kernel) rfl (fun w0 => ld_mem1 (h := 3) ty3 rfl rfl rfl (Nat.zero_add _).symm rfl) rfl rfl (Sub.refl _) ?_
    refine mx_one (i := 5) (by decide +kernel) (Sub.refl _) ?_
    refine wo (i := 5) rfl ?_
    refine st_call has64 rfl (fun w1 sw => rn 10 (rwho_any pb mv kv need body ms ks w1 (sw.sl_rd (h := 22) rfl) hbl ha hml (sw.sl_rd (h := 21) rfl) (fun x hx => (Qm.Keeps.of sw).mrd (hmr x hx)) hu hkl (sw.sl_rd (h := 20) rfl))) nil_all rfl rfl (fun v10 _ => ?_)
    have hwu := Qm.who_h32 body ms hu
    have hw32 := hwu.1
    refine op_nil ?_
    refine ax_then ?_
    refine mx_one (i := 6) (by decide +kernel) (Sub.refl _) ?_
    refine wo (i := 6) rfl ?_
    refine st (ev_len_ownh (h := 10) Try.underlying22 rfl rfl (by assumption)) rfl rfl rfl ?_
    refine op_nil ?_
    refine ax_then ?_
    refine mx (i := 9) rfl (by decide +kernel) (by decide +kernel) (by decide +kernel) rfl (fun w0 => ev_geq rfl rfl) rfl rfl (Sub.refl _) ?_
    refine mx (i := 10) rfl (by decide +kernel) (by decide +kernel) (by decide +kernel) rfl (fun w0 => ev_pick_t rfl rfl) rfl rfl (Sub.refl _) ?_
    refine mx (i := 11) rfl (by decide +kernel) (by decide +kernel) (by decide +kernel) rfl (fun w0 => ev_assign rfl) rfl rfl (Sub.refl _) ?_
    refine mx_done (by decide +kernel) (Sub.refl _) ?_
    refine ax_then ?_
    refine At.regs (L' := [(4, _)]) (.cons rfl (.nil _)) ?_
    refine cd_ret ?_
    refine rt_tmp (.inl rfl) Try.results34 rfl ?_
    exact fun w1 sw => ⟨congrArg (fun b => Ending.returned (Value.bool b)) (by first | exact (decide_eq_false (fun hh => hg7 hh.1)).symm | exact decide_eq_decide.2 ⟨fun hh => ⟨hg7, hh⟩, fun hh => hh.2⟩), sw.gives (.nil _)⟩
  ·
    refine mx_skip (i := 3) rfl (by decide +kernel) (by decide +kernel) (by decide +kernel) rfl rfl rfl (Sub.refl _) ?_
    refine mx_skip (i := 4) rfl (by decide +kernel) (by decide +kernel) (by decide +kernel) rfl rfl rfl (Sub.refl _) ?_
    refine mx_skip (i := 5) rfl (by decide +kernel) (by decide +kernel) (by decide +kernel) rfl rfl rfl (Sub.refl _) ?_
    refine mx_skip (i := 6) rfl (by decide +kernel) (by decide +kernel) (by decide +kernel) rfl rfl rfl (Sub.refl _) ?_
    refine mx_skip (i := 7) rfl (by decide +kernel) (by decide +kernel) (by decide +kernel) rfl rfl rfl (Sub.refl _) ?_
    refine mx_skip (i := 8) rfl (by decide +kernel) (by decide +kernel) (by decide +kernel) rfl rfl rfl (Sub.refl _) ?_
    refine mx_skip (i := 9) rfl (by decide +kernel) (by decide +kernel) (by decide +kernel) rfl rfl rfl (Sub.refl _) ?_
    refine mx (i := 10) rfl (by decide +kernel) (by decide +kernel) (by decide +kernel) rfl (fun w0 => ev_pick_f rfl rfl) rfl rfl (Sub.refl _) ?_
    refine mx (i := 11) rfl (by decide +kernel) (by decide +kernel) (by decide +kernel) rfl (fun w0 => ev_assign rfl) rfl rfl (Sub.refl _) ?_
    refine mx_done (by decide +kernel) (Sub.refl _) ?_
    refine ax_then ?_
    refine At.regs (L' := [(4, _)]) (.cons rfl (.nil _)) ?_
    refine cd_ret ?_
    refine rt_tmp (.inl rfl) Try.results34 rfl ?_
    exact fun w1 sw => ⟨congrArg (fun b => Ending.returned (Value.bool b)) (by first | exact (decide_eq_false (fun hh => hg7 hh.1)).symm | exact decide_eq_decide.2 ⟨fun hh => ⟨hg7, hh⟩, fun hh => hh.2⟩), sw.gives (.nil _)⟩
end Go.Proofs.Ytgfnmolbagilmaa

namespace Go.Proofs.Ytgfnmolbagilmaa
open Go Go.RowKit Fw
open Sha
open Ots
open Mk
set_option linter.unusedVariables false
set_option linter.unusedSimpArgs false
theorem rkey_new {s : List Int} (hl : s.length = 32) (n : Int) : wr (wr (ints .u8 (List.replicate 32 0) ++ ([.slice none 0 0] ++ (ints .u8 (List.replicate 32 0) ++ [.int .i64 0]))) 0 (ints .u8 s)) 65 [.int .i64 n] = Ky.rcells s (.slice none 0 0) (List.replicate 32 0) n := by
  have h1 : wr (ints .u8 (List.replicate 32 0) ++ ([Value.slice none 0 0] ++ (ints .u8 (List.replicate 32 0) ++ [.int .i64 0]))) 0 (ints .u8 s) = Ky.rcells s (.slice none 0 0) (List.replicate 32 0) 0 := by
    rw [wr, List.take_zero, List.nil_append, ints_length, hl, Nat.zero_add, List.drop_left' (by simp [ints_length])]
    rfl
  rw [h1, wr_one (by rw [Ky.rcells_len hl (by simp)]; decide), Ky.rcells_set65 hl (by simp)]
set_option maxRecDepth 20000 in
set_option maxHeartbeats 4000000 in
theorem rnew_any (s : List Int) (u : Int) (w : World) (hl : s.length = 32) : Calls Try.prog 37 #[.agg (ints .u8 (s)).toArray, .int .i64 u] w (Post (ι := Nat × Value) w [] (fun _ => True) (fun x => .pointer (some ⟨x.1, 0, none⟩)) (fun x => [(0, .blk (x.1) (.cells (Ky.rcells s x.2 (Ky.keyPub s) (Ky.clamp u)).toArray 62)), (1, .own (x.2) 55 32 (flat (Ky.leaves s 16)))])) := by
  refine calls_at (vs := [.agg (ints .u8 (s)).toArray, .int .i64 u]) (X := []) (H := []) (F := []) 39 Try.func37 rfl rfl rfl (Sat.start0 w) ?_
  refine cd_seq ?_
  refine cd_region ?_
  refine st_box (h := 2) rfl rfl rfl rfl (fun b2 => ?_)
  refine st (ev_assign rfl) rfl rfl rfl ?_
  refine op_nil ?_
  refine ax_then ?_
  refine At.regs (L' := [(1, _), (2, _), (4, _)]) (.cons rfl (.cons rfl (.cons rfl (.nil _)))) ?_
  refine cd_seq ?_
  refine cd_region ?_
  refine st (ld_blk_all (h := 2) ty55 rfl rfl rfl (by first | omega | (simp only [List.length_append, List.length_cons, List.length_nil, List.length_set, List.length_replicate, List.length_take, List.length_drop, ints_length, wr_length, sha_len, node_len, recov_len, Ky.named_len, Ky.keyPub_len] <;> omega) | rfl)) rfl rfl rfl ?_
  refine st (ev_move rfl) rfl rfl rfl ?_
  refine st (ev_max2 rfl rfl) rfl rfl rfl ?_
  refine st (ev_min2 rfl rfl) rfl rfl rfl ?_
  refine at_eq (i := 10) (v' := .int .i64 (Ky.clamp u)) rfl rfl ?_
  refine st (ev_build_struct ty62 rfl pl62 rfl ((fill_put (i := 0) (off := 0) (n := 32) (vs := ints .u8 s) rfl rfl (by rw [ints_length, hl]) (Nat.le_of_ble_eq_true rfl)).trans ((fill_put (i := 3) (off := 65) (n := 1) (vs := [.int .i64 (Ky.clamp u)]) rfl rfl rfl (by rw [wr_length (by rw [ints_length, hl]; exact Nat.le_of_ble_eq_true rfl)]; exact Nat.le_of_ble_eq_true rfl)).trans fill_nil))) rfl rfl rfl ?_
  refine at_eq (i := 11) (v' := .agg (Ky.rcells s (.slice none 0 0) (List.replicate 32 0) (Ky.clamp u)).toArray) rfl (congrArg (fun x => Value.agg (List.toArray x)) (rkey_new hl _)) ?_
  refine st_box (h := 12) rfl rfl rfl rfl (fun b12 => ?_)
  refine st (ev_assign rfl) rfl rfl rfl ?_
  refine op_nil ?_
  refine ax_then ?_
  refine At.regs (L' := [(2, _), (4, _), (5, _)]) (.cons rfl (.cons rfl (.cons rfl (.nil _)))) ?_
  refine cd_seq ?_
  refine cd_seq ?_
  refine cd_region ?_
  refine st (ev_assign rfl) rfl rfl rfl ?_
  refine op_nil ?_
  refine ax_then ?_
  refine At.regs (L' := [(2, _), (4, _), (5, _), (6, _)]) (.cons rfl (.cons rfl (.cons rfl (.cons rfl (.nil _))))) ?_
  refine cd_block ?_
  refine at_freeze_blk (h := 2) (H' := [(12, _)]) 2 rfl (.cons rfl (.nil _)) rfl ?_
  refine at_own_nil 20 55 32 ?_
  refine at_heq (i := 20) (v' := .own (.slice none 0 0) 55 32 (flat (Ky.leaves s 0))) rfl rfl ?_
  refine cd_loop (ι := Nat × Value) (fun x => x.1 ≤ 16) (fun x => 16 - x.1)
      (fun x => [(2, .pointer (some ⟨b2, 0, none⟩)), (5, .pointer (some ⟨b12, 0, none⟩)), (6, .int .i64 (x.1 : Int))])
      (fun x => [(12, .blk (b12) (.cells (Ky.rcells s x.2 (List.replicate 32 0) (Ky.clamp u)).toArray 62)), (20, .own (x.2) 55 32 (flat (Ky.leaves s x.1)))])
      (fun x => [(2, .mem b2 0 (ints .u8 s))])
      (0, .slice none 0 0) (by omega) (.cons rfl (.cons rfl (.cons rfl (.nil _)))) (.cons rfl (.cons rfl (.nil _))) (.cons rfl (.nil _)) (fun x hi => ?_)
  have hlu := Ky.leaves_h32 s x.1
  have hln := Ky.leaves_len s x.1
  have hpl : (pub s x.1).length = 32 := sha_len _
  refine cd_seq ?_
  refine cd_seq ?_
  refine cd_region ?_
  refine st (ev_move rfl) rfl rfl rfl ?_
  refine st (ev_lss rfl rfl) rfl rfl rfl ?_
  refine op_nil ?_
  refine ax_then ?_
  refine At.regs (L' := [(2, _), (5, _), (6, _), (13, _), (14, _)]) (.cons rfl (.cons rfl (.cons rfl (.cons rfl (.cons rfl (.nil _)))))) ?_
  refine cd_if rfl (fun hc14 => ?_) (fun hc14 => ?_)
  ·
    refine cd_skip ?_
    refine ax_then ?_
    refine At.regs (L' := [(2, _), (5, _), (6, _), (13, _), (14, _)]) (.cons rfl (.cons rfl (.cons rfl (.cons rfl (.cons rfl (.nil _)))))) ?_
    refine cd_seq ?_
    refine cd_block ?_
    refine cd_mix hmix ?_
    refine mx (i := 0) rfl (by decide +kernel) (by decide +kernel) (by decide +kernel) rfl (fun w0 => ev_move rfl) rfl rfl (Sub.refl _) ?_
    refine mx (i := 1) rfl (by decide +kernel) (by decide +kernel) (by decide +kernel) rfl (fun w0 => ev_move rfl) rfl rfl (Sub.refl _) ?_
    refine mx (i := 2) rfl (by decide +kernel) (by decide +kernel) (by decide +kernel) rfl (fun w0 => ev_nilCheck rfl) rfl rfl (Sub.refl _) ?_
    refine mx (i := 3) rfl (by decide +kernel) (by decide +kernel) (by decide +kernel) rfl (fun w0 => ev_fieldAddr (b := _) Try.underlying62 (f := _) rfl ty22 (by decide) rfl) rfl rfl (Sub.refl _) ?_
    refine mx (i := 5) rfl (by decide +kernel) (by decide +kernel) (by decide +kernel) rfl (fun w0 => ld_mem_all (h := 2) ty55 rfl rfl rfl (by first | omega | (simp only [List.length_append, List.length_cons, List.length_nil, List.length_set, List.length_replicate, List.length_take, List.length_drop, ints_length, wr_length, sha_len, node_len, recov_len, Ky.named_len, Ky.keyPub_len] <;> omega) | rfl)) rfl rfl (Sub.refl _) ?_
    refine mx (i := 6) rfl (by decide +kernel) (by decide +kernel) (by decide +kernel) rfl (fun w0 => ev_move rfl) rfl rfl (Sub.refl _) ?_
    refine mx_two (i := 4) (j := 7) (by decide +kernel) (Sub.refl _) ?_ ?_
    ·
      refine wo (i := 4) rfl ?_
      refine st (ld_blk1 (h := 12) ty22 rfl rfl rfl (Ky.rcells_32 hl _ _)) rfl rfl rfl ?_
      refine op_nil ?_
      refine ax_then ?_
      refine mx_one (i := 7) (by decide +kernel) (Sub.refl _) ?_
      refine wo (i := 7) rfl ?_
      refine st_callv has67 rfl (fun w1 sw => rpublic_any s x.1 w1 hl) rfl rfl ?_
      refine op_nil ?_
      refine ax_then ?_
      refine mx_one (i := 8) (by decide +kernel) (Sub.refl _) ?_
      refine wo (i := 8) rfl ?_
      refine st_bsh1 (h := 25) Try.underlying22 ty55 rfl (by first | assumption | omega) rfl rfl (fun b25 hu25 => ?_)
      refine op_nil ?_
      refine ax_then ?_
      refine mx_one (i := 9) (by decide +kernel) (Sub.refl _) ?_
      refine wo (i := 9) rfl ?_
      refine st_appendh (h := 20) Try.underlying22 Try.underlying22 ty55 rfl rfl rfl rfl (fun w1 sw => sw.own_rd (h := 25) rfl) (by assumption) (by assumption) (by first | omega | (simp only [List.length_append, List.length_cons, List.length_nil, List.length_set, List.length_replicate, List.length_take, List.length_drop, ints_length, wr_length, sha_len, node_len, recov_len, Ky.named_len, Ky.keyPub_len] <;> omega)) (by decide) rfl rfl (fun v26 hu26 => ?_)
      refine at_own_shape (h := 20) rfl (fun hs26 => ?_)
      refine op_nil ?_
      refine ax_then ?_
      refine mx (i := 10) rfl (by decide +kernel) (by decide +kernel) (by decide +kernel) rfl (fun w0 => ev_nilCheck rfl) rfl rfl (Sub.refl _) ?_
      refine mx (i := 11) rfl (by decide +kernel) (by decide +kernel) (by decide +kernel) rfl (fun w0 => ev_fieldAddr (b := _) Try.underlying62 (f := _) rfl ty22 (by decide) rfl) rfl rfl (Sub.refl _) ?_
      refine mx_one (i := 12) (by decide +kernel) (Sub.refl _) ?_
      refine wo (i := 12) rfl ?_
      refine st_store1 12 ty22 rfl rfl rfl hs26.2 (by rw [Ky.rcells_len hl (by simp)]; decide) rfl ?_
      refine at_heq (i := 12) (v' := .blk (b12) (.cells (Ky.rcells s v26 (List.replicate 32 0) (Ky.clamp u)).toArray 62)) rfl (congrArg (fun l : List Value => Ent.blk b12 (.cells l.toArray 62)) (Ky.rcells_set32 hl _ _ _)) ?_
      refine op_nil ?_
      refine ax_then ?_
      refine mx_done (by decide +kernel) (Sub.refl _) ?_
      refine ax_block ?_
      refine ax_then ?_
      refine At.regs (L' := [(2, _), (5, _), (6, _), (13, _), (14, _), (17, _), (18, _), (19, _), (20, _), (21, _), (22, _), (23, _), (24, _), (25, _), (26, _), (27, _), (28, _)]) (.cons rfl (.cons rfl (.cons rfl (.cons rfl (.cons rfl (.cons rfl (.cons rfl (.cons rfl (.cons rfl (.cons rfl (.cons rfl (.cons rfl (.cons rfl (.cons rfl (.cons rfl (.cons rfl (.cons rfl (.nil _)))))))))))))))))) ?_
      refine cd_region ?_
      refine st (ev_move rfl) rfl rfl rfl ?_
      refine st (ev_add64 rfl rfl (by omega) (by omega)) rfl rfl rfl ?_
      refine st (ev_assign rfl) rfl rfl rfl ?_
      refine op_nil ?_
      refine ax_heq (i := 20) (v' := .own (v26) 55 32 (flat (Ky.leaves s (x.1 + 1)))) rfl (by rw [Ky.leaves_snoc]) ?_
      exact at_again ((x.1 + 1, v26)) (by show x.1 + 1 ≤ 16; omega) (by omega) (.cons rfl (.cons rfl (.cons rfl (.nil _)))) (.cons rfl (.cons rfl (.nil _))) (.cons rfl (.nil _))
    ·
      refine wo (i := 7) rfl ?_
      refine st_callv has67 rfl (fun w1 sw => rpublic_any s x.1 w1 hl) rfl rfl ?_
      refine op_nil ?_
      refine ax_then ?_
      refine mx_two (i := 4) (j := 8) (by decide +kernel) (Sub.refl _) ?_ ?_
      ·
        refine wo (i := 4) rfl ?_
        refine st (ld_blk1 (h := 12) ty22 rfl rfl rfl (Ky.rcells_32 hl _ _)) rfl rfl rfl ?_
        refine op_nil ?_
        refine ax_then ?_
        refine mx_one (i := 8) (by decide +kernel) (Sub.refl _) ?_
        refine wo (i := 8) rfl ?_
        refine st_bsh1 (h := 25) Try.underlying22 ty55 rfl (by first | assumption | omega) rfl rfl (fun b25 hu25 => ?_)
        refine op_nil ?_
        refine ax_then ?_
        refine mx_one (i := 9) (by decide +kernel) (Sub.refl _) ?_
        refine wo (i := 9) rfl ?_
        refine st_appendh (h := 20) Try.underlying22 Try.underlying22 ty55 rfl rfl rfl rfl (fun w1 sw => sw.own_rd (h := 25) rfl) (by assumption) (by assumption) (by first | omega | (simp only [List.length_append, List.length_cons, List.length_nil, List.length_set, List.length_replicate, List.length_take, List.length_drop, ints_length, wr_length, sha_len, node_len, recov_len, Ky.named_len, Ky.keyPub_len] <;> omega)) (by decide) rfl rfl (fun v26 hu26 => ?_)
        refine at_own_shape (h := 20) rfl (fun hs26 => ?_)
        refine op_nil ?_
        refine ax_then ?_
        refine mx (i := 10) rfl (by decide +kernel) (by decide +kernel) (by decide +kernel) rfl (fun w0 => ev_nilCheck rfl) rfl rfl (Sub.refl _) ?_
        refine mx (i := 11) rfl (by decide +kernel) (by decide +kernel) (by decide +kernel) rfl (fun w0 => ev_fieldAddr (b := _) Try.underlying62 (f := _) rfl ty22 (by decide) rfl) rfl rfl (Sub.refl _) ?_
        refine mx_one (i := 12) (by decide +kernel) (Sub.refl _) ?_
        refine wo (i := 12) rfl ?_
        refine st_store1 12 ty22 rfl rfl rfl hs26.2 (by rw [Ky.rcells_len hl (by simp)]; decide) rfl ?_
        refine at_heq (i := 12) (v' := .blk (b12) (.cells (Ky.rcells s v26 (List.replicate 32 0) (Ky.clamp u)).toArray 62)) rfl (congrArg (fun l : List Value => Ent.blk b12 (.cells l.toArray 62)) (Ky.rcells_set32 hl _ _ _)) ?_
        refine op_nil ?_
        refine ax_then ?_
        refine mx_done (by decide +kernel) (Sub.refl _) ?_
        refine ax_block ?_
        refine ax_then ?_
        refine At.regs (L' := [(2, _), (5, _), (6, _), (13, _), (14, _), (17, _), (18, _), (19, _), (20, _), (21, _), (22, _), (23, _), (24, _), (25, _), (26, _), (27, _), (28, _)]) (.cons rfl (.cons rfl (.cons rfl (.cons rfl (.cons rfl (.cons rfl (.cons rfl (.cons rfl (.cons rfl (.cons rfl (.cons rfl (.cons rfl (.cons rfl (.cons rfl (.cons rfl (.cons rfl (.cons rfl (.nil _)))))))))))))))))) ?_
        refine cd_region ?_
        refine st (ev_move rfl) rfl rfl rfl ?_
        refine st (ev_add64 rfl rfl (by omega) (by omega)) rfl rfl rfl ?_
        refine st (ev_assign rfl) rfl rfl rfl ?_
        refine op_nil ?_
        refine ax_heq (i := 20) (v' := .own (v26) 55 32 (flat (Ky.leaves s (x.1 + 1)))) rfl (by rw [Ky.leaves_snoc]) ?_
        exact at_again ((x.1 + 1, v26)) (by show x.1 + 1 ≤ 16; omega) (by omega) (.cons rfl (.cons rfl (.cons rfl (.nil _)))) (.cons rfl (.cons rfl (.nil _))) (.cons rfl (.nil _))
      ·
        refine wo (i := 8) rfl ?_
        refine st_bsh1 (h := 25) Try.underlying22 ty55 rfl (by first | assumption | omega) rfl rfl (fun b25 hu25 => ?_)
        refine op_nil ?_
        refine ax_then ?_
        refine mx_one (i := 4) (by decide +kernel) (Sub.refl _) ?_
        refine wo (i := 4) rfl ?_
        refine st (ld_blk1 (h := 12) ty22 rfl rfl rfl (Ky.rcells_32 hl _ _)) rfl rfl rfl ?_
        refine op_nil ?_
        refine ax_then ?_
        refine mx_one (i := 9) (by decide +kernel) (Sub.refl _) ?_
        refine wo (i := 9) rfl ?_
        refine st_appendh (h := 20) Try.underlying22 Try.underlying22 ty55 rfl rfl rfl rfl (fun w1 sw => sw.own_rd (h := 25) rfl) (by assumption) (by assumption) (by first | omega | (simp only [List.length_append, List.length_cons, List.length_nil, List.length_set, List.length_replicate, List.length_take, List.length_drop, ints_length, wr_length, sha_len, node_len, recov_len, Ky.named_len, Ky.keyPub_len] <;> omega)) (by decide) rfl rfl (fun v26 hu26 => ?_)
        refine at_own_shape (h := 20) rfl (fun hs26 => ?_)
        refine op_nil ?_
        refine ax_then ?_
        refine mx (i := 10) rfl (by decide +kernel) (by decide +kernel) (by decide +kernel) rfl (fun w0 => ev_nilCheck rfl) rfl rfl (Sub.refl _) ?_
        refine mx (i := 11) rfl (by decide +kernel) (by decide +kernel) (by decide +kernel) rfl (fun w0 => ev_fieldAddr (b := _) Try.underlying62 (f := _) rfl ty22 (by decide) rfl) rfl rfl (Sub.refl _) ?_
        refine mx_one (i := 12) (by decide +kernel) (Sub.refl _) ?_
        refine wo (i := 12) rfl ?_
        refine st_store1 12 ty22 rfl rfl rfl hs26.2 (by rw [Ky.rcells_len hl (by simp)]; decide) rfl ?_
        refine at_heq (i := 12) (v' := .blk (b12) (.cells (Ky.rcells s v26 (List.replicate 32 0) (Ky.clamp u)).toArray 62)) rfl (congrArg (fun l : List Value => Ent.blk b12 (.cells l.toArray 62)) (Ky.rcells_set32 hl _ _ _)) ?_
        refine op_nil ?_
        refine ax_then ?_
        refine mx_done (by decide +kernel) (Sub.refl _) ?_
        refine ax_block ?_
        refine ax_then ?_
        refine At.regs (L' := [(2, _), (5, _), (6, _), (13, _), (14, _), (17, _), (18, _), (19, _), (20, _), (21, _), (22, _), (23, _), (24, _), (25, _), (26, _), (27, _), (28, _)]) (.cons rfl (.cons rfl (.cons rfl (.cons rfl (.cons rfl (.cons rfl (.cons rfl (.cons rfl (.cons rfl (.cons rfl (.cons rfl (.cons rfl (.cons rfl (.cons rfl (.cons rfl (.cons rfl (.cons rfl (.nil _)))))))))))))))))) ?_
        refine cd_region ?_
        refine st (ev_move rfl) rfl rfl rfl ?_
        refine st (ev_add64 rfl rfl (by omega) (by omega)) rfl rfl rfl ?_
        refine st (ev_assign rfl) rfl rfl rfl ?_
        refine op_nil ?_
        refine ax_heq (i := 20) (v' := .own (v26) 55 32 (flat (Ky.leaves s (x.1 + 1)))) rfl (by rw [Ky.leaves_snoc]) ?_
        exact at_again ((x.1 + 1, v26)) (by show x.1 + 1 ≤ 16; omega) (by omega) (.cons rfl (.cons rfl (.cons rfl (.nil _)))) (.cons rfl (.cons rfl (.nil _))) (.cons rfl (.nil _))
  ·
    obtain ⟨j, v⟩ := x
    dsimp only at hi hc14 ⊢
    obtain rfl : j = 16 := by omega
    have hlu := Ky.leaves_h32 s 16
    have hll := Ky.leaves_len s 16
    refine cd_exit ?_
    refine ax_then_exit ?_
    refine ax_then_exit ?_
    refine ax_block_hit ?_
    refine ax_then ?_
    refine At.regs (L' := [(5, _)]) (.cons rfl (.nil _)) ?_
    refine cd_seq ?_
    refine cd_region ?_
    refine st (ev_move rfl) rfl rfl rfl ?_
    refine st (ev_move rfl) rfl rfl rfl ?_
    refine st (ev_nilCheck rfl) rfl rfl rfl ?_
    refine st (ev_fieldAddr (b := _) Try.underlying62 (f := _) rfl ty22 (by decide) rfl) rfl rfl rfl ?_
    refine st (ld_blk1 (h := 12) ty22 rfl rfl rfl (Ky.rcells_32 hl _ _)) rfl rfl rfl ?_
    refine st_callv has69 rfl (fun w1 sw => rroot_any v (Ky.leaves s 16) w1 hlu (by rw [hll]; decide) (sw.own_rd (h := 20) rfl)) rfl rfl ?_
    refine st_callv has68 rfl (fun w1 sw => rnamed_any (root (Ky.leaves s 16)) w1 (root_len hlu)) rfl rfl ?_
    refine at_eq (i := 35) (v' := .agg (ints .u8 (Ky.keyPub s)).toArray) rfl rfl ?_
    refine st (ev_nilCheck rfl) rfl rfl rfl ?_
    refine st (ev_fieldAddr (b := _) Try.underlying62 (f := _) rfl ty55 (by decide) rfl) rfl rfl rfl ?_
    refine st_store 12 ty55 rfl rfl rfl rfl (by rw [ints_length, Ky.keyPub_len]) (ints_one _ _) (by rw [Ky.rcells_len hl (by simp)]; decide) rfl ?_
    refine at_heq (i := 12) (v' := .blk (b12) (.cells (Ky.rcells s v (Ky.keyPub s) (Ky.clamp u)).toArray 62)) rfl (congrArg (fun l : List Value => Ent.blk b12 (.cells l.toArray 62)) (Ky.rcells_wr hl (by simp) (Ky.keyPub_len s) _ _)) ?_
    refine op_nil ?_
    refine ax_then ?_
    refine At.regs (L' := [(5, _)]) (.cons rfl (.nil _)) ?_
    refine cd_seq ?_
    refine cd_region ?_
    refine st (ev_move rfl) rfl rfl rfl ?_
    refine st (ev_assign rfl) rfl rfl rfl ?_
    refine op_nil ?_
    refine ax_then ?_
    refine At.regs (L' := [(4, _)]) (.cons rfl (.nil _)) ?_
    refine cd_ret ?_
    refine rt_tmp (.inl rfl) Try.results37 rfl ?_
    exact fun w1 sw => ⟨(b12, v), trivial, rfl, (sw.gives (N := [(12, _), (20, _)]) (.cons rfl (.cons rfl (.nil _)))).rn2 (by decide) 0 1⟩
set_option maxRecDepth 20000 in
set_option maxHeartbeats 1000000 in
theorem rsignk_used (b : Nat) (v : Value) (s : List Int) (n : Nat) (q : Value) (w : World) (hn : 16 ≤ n) (hl : s.length = 32) (h : Lies w b 0 (Ky.rcells s v (Ky.keyPub s) ((n : Int)))) : Calls Try.prog 40 #[.pointer (some ⟨b, 0, none⟩), q] w (PostV w (.tuple #[.agg (List.toArray [.int .i64 0, .slice none 0 0, .slice none 0 0]), .int .i64 3])) := by
  refine calls_at (vs := [.pointer (some ⟨b, 0, none⟩), q]) (X := []) (H := []) (F := [(21, .mem b 0 (Ky.rcells s v (Ky.keyPub s) ((n : Int))))]) 45 Try.func40 rfl rfl rfl ((Sat.start0 w).read 21 h off_nil) ?_
  refine cd_seq ?_
  refine cd_region ?_
  refine st_alloc (h := 4) ty80 rfl rfl rfl (fun b4 => ?_)
  refine st (ev_assign rfl) rfl rfl rfl ?_
  refine op_nil ?_
  refine ax_then ?_
  refine At.regs (L' := [(0, _), (1, _), (4, _), (5, _)]) (.cons rfl (.cons rfl (.cons rfl (.cons rfl (.nil _))))) ?_
  refine cd_seq ?_
  refine cd_seq ?_
  refine cd_region ?_
  refine st (ev_move rfl) rfl rfl rfl ?_
  refine st (ev_nilCheck rfl) rfl rfl rfl ?_
  refine st (ev_fieldAddr (b := _) Try.underlying62 (f := _) rfl ty3 (by decide) rfl) rfl rfl rfl ?_
  refine st (ld_mem1 (h := 21) ty3 rfl rfl rfl (Nat.zero_add _).symm (Ky.rcells_65 hl (Ky.keyPub_len s) _ _)) rfl rfl rfl ?_
  refine st (ev_geq rfl rfl) rfl rfl rfl ?_
  refine op_nil ?_
  refine ax_then ?_
  refine At.regs (L' := [(0, _), (1, _), (4, _), (5, _), (11, _)]) (.cons rfl (.cons rfl (.cons rfl (.cons rfl (.cons rfl (.nil _)))))) ?_
  refine cd_if_t rfl (by omega) ?_
  refine cd_seq ?_
  refine cd_region ?_
  refine st (ev_build_struct ty80 rfl pl80 rfl rfl) rfl rfl rfl ?_
  refine st_store_all 4 ty80 rfl rfl rfl rfl (by first | omega | (simp only [List.length_append, List.length_cons, List.length_nil, List.length_set, List.length_replicate, List.length_take, List.length_drop, ints_length, wr_length, sha_len, node_len, recov_len, Ky.named_len, Ky.keyPub_len] <;> omega) | rfl) (by first | (intro u hu; simp at hu; rcases hu with rfl | rfl <;> rfl) | (simp [Value.oneCell'])) (by first | omega | (simp only [List.length_append, List.length_cons, List.length_nil, List.length_set, List.length_replicate, List.length_take, List.length_drop, ints_length, wr_length, sha_len, node_len, recov_len, Ky.named_len, Ky.keyPub_len] <;> omega) | rfl) rfl ?_
  refine st (ev_assign rfl) rfl rfl rfl ?_
  refine op_nil ?_
  refine ax_then ?_
  refine At.regs (L' := [(0, _), (1, _), (4, _), (5, _)]) (.cons rfl (.cons rfl (.cons rfl (.cons rfl (.nil _))))) ?_
  refine cd_ret ?_
  refine ax_then_ret ?_
  refine rt_cell_tmp (h0 := 4) (.inl rfl) Try.results40 ty80 rfl rfl rfl (by first | omega | (simp only [List.length_append, List.length_cons, List.length_nil, List.length_set, List.length_replicate, List.length_take, List.length_drop, ints_length, wr_length, sha_len, node_len, recov_len, Ky.named_len, Ky.keyPub_len] <;> omega) | rfl) rfl ?_
  exact fun w1 sw => ⟨rfl, sw.gives (.nil _)⟩
set_option maxRecDepth 20000 in
set_option maxHeartbeats 4000000 in
theorem rsignk_any (b : Nat) (v q : Value) (s m : List Int) (n : Nat) (w : World) (hl : s.length = 32) (hn : n < 16) (hm : m.length ≤ 140737488352000) (hb : w.heap[b]? = some (.cells (Ky.rcells s v (Ky.keyPub s) ((n : Int))).toArray 62)) (h : Rd w v 32 (flat (Ky.leaves s 16))) (hbv : FE.off b (.sl (v) 32 (flat (Ky.leaves s 16)))) (h' : Rd w q 1 (ints .u8 m)) (hbq : FE.off b (.sl (q) 1 (ints .u8 (m)))) : Calls Try.prog 40 #[.pointer (some ⟨b, 0, none⟩), q] w (Post (ι := Value × Value) w [b] (fun _ => True) (fun x => .tuple #[.agg (List.toArray [.int .i64 (n : Int), x.1, x.2]), .int .i64 0]) (fun x => [(0, .blk (b) (.cells (Ky.rcells s v (Ky.keyPub s) (((n + 1 : Nat) : Int))).toArray 62)), (1, .own (x.1) 55 32 (flat (sign s n m 36))), (2, .own (x.2) 55 32 (flat (path (Ky.leaves s 16) n)))])) := by
  have hlu := Ky.leaves_h32 s 16
  have hll := Ky.leaves_len s 16
  refine calls_at (vs := [.pointer (some ⟨b, 0, none⟩), q]) (X := [b]) (H := [(0, .blk (b) (.cells (Ky.rcells s v (Ky.keyPub s) ((n : Int))).toArray 62))]) (F := [(2, .sl (q) 1 (ints .u8 (m))), (1, .sl (v) 32 (flat (Ky.leaves s 16)))]) 45 Try.func40 rfl rfl rfl (((Sat.blkX 0 hb).readb (f := .sl (v) 32 (flat (Ky.leaves s 16))) 1 h hbv).readb (f := .sl (q) 1 (ints .u8 (m))) 2 h' hbq) ?_
  refine cd_seq ?_
  refine cd_region ?_
  refine st_alloc (h := 4) ty80 rfl rfl rfl (fun b4 => ?_)
  refine st (ev_assign rfl) rfl rfl rfl ?_
  refine op_nil ?_
  refine ax_then ?_
  refine At.regs (L' := [(0, _), (1, _), (4, _), (5, _)]) (.cons rfl (.cons rfl (.cons rfl (.cons rfl (.nil _))))) ?_
  refine cd_seq ?_
  refine cd_seq ?_
  refine cd_region ?_
  refine st (ev_move rfl) rfl rfl rfl ?_
  refine st (ev_nilCheck rfl) rfl rfl rfl ?_
  refine st (ev_fieldAddr (b := _) Try.underlying62 (f := _) rfl ty3 (by decide) rfl) rfl rfl rfl ?_
  refine st (ld_blk1 (h := 0) ty3 rfl rfl rfl (Ky.rcells_65 hl (Ky.keyPub_len s) _ _)) rfl rfl rfl ?_
  refine st (ev_geq rfl rfl) rfl rfl rfl ?_
  refine op_nil ?_
  refine ax_then ?_
  refine At.regs (L' := [(0, _), (1, _), (4, _), (5, _), (11, _)]) (.cons rfl (.cons rfl (.cons rfl (.cons rfl (.cons rfl (.nil _)))))) ?_
  refine cd_if_f rfl (by omega) ?_
  refine cd_skip ?_
  refine ax_then ?_
  refine At.regs (L' := [(0, _), (1, _), (4, _), (5, _)]) (.cons rfl (.cons rfl (.cons rfl (.cons rfl (.nil _))))) ?_
  refine cd_join (ι := Nat × Value × Value) (fun x => ((x.2.1.cells = #[x.2.1] ∧ x.2.1.oneCell' = true) ∧ (x.2.2.cells = #[x.2.2] ∧ x.2.2.oneCell' = true))) (fun x => [(0, .pointer (some ⟨b, 0, none⟩)), (4, .pointer (some ⟨b4, 0, none⟩)), (6, .pointer (some ⟨x.1, 0, none⟩))]) (fun x => [(0, .blk (b) (.cells (Ky.rcells s v (Ky.keyPub s) ((n : Int))).toArray 62)), (4, .blk (b4) (.cells ([.int .i64 0, .slice none 0 0, .slice none 0 0]).toArray 80)), (6, .blk (x.1) (.cells ([.int .i64 (n : Int), x.2.1, x.2.2]).toArray 80)), (26, .own (x.2.1) 55 32 (flat (sign s n m 36))), (35, .own (x.2.2) 55 32 (flat (path (Ky.leaves s 16) n)))]) (fun x => [(1, .sl (v) 32 (flat (Ky.leaves s 16))), (2, .sl (q) 1 (ints .u8 (m)))]) ?_ (fun x hj => ?_)
  ·
    refine cd_mixp [(300, .mem b 0 (Ky.rcells s v (Ky.keyPub s) ((n : Int)))), (2, .sl (q) 1 (ints .u8 (m))), (1, .sl (v) 32 (flat (Ky.leaves s 16)))] hmix ?_
    refine mxp (i := 0) rfl (by decide +kernel) (by decide +kernel) (by decide +kernel) rfl (fun w0 => ev_move rfl) rfl rfl (fun w sw => CF.cons (lies_blk (sw.blk_eq (h := 0) rfl)) (sw.cf (.refl _))) ?_
    refine mxp (i := 1) rfl (by decide +kernel) (by decide +kernel) (by decide +kernel) rfl (fun w0 => ev_nilCheck rfl) rfl rfl (fun w sw => CF.cons (lies_blk (sw.blk_eq (h := 0) rfl)) (sw.cf (.refl _))) ?_
    refine mxp (i := 2) rfl (by decide +kernel) (by decide +kernel) (by decide +kernel) rfl (fun w0 => ev_fieldAddr (b := _) Try.underlying62 (f := _) rfl ty3 (by decide) rfl) rfl rfl (fun w sw => CF.cons (lies_blk (sw.blk_eq (h := 0) rfl)) (sw.cf (.refl _))) ?_
    refine mxp (i := 3) rfl (by decide +kernel) (by decide +kernel) (by decide +kernel) rfl (fun w0 => ld_mem1 (h := 300) ty3 rfl rfl rfl (Nat.zero_add _).symm (Ky.rcells_65 hl (Ky.keyPub_len s) _ _)) rfl rfl (fun w sw => CF.cons (lies_blk (sw.blk_eq (h := 0) rfl)) (sw.cf (.refl _))) ?_
    refine mxp (i := 4) rfl (by decide +kernel) (by decide +kernel) (by decide +kernel) rfl (fun w0 => ev_move rfl) rfl rfl (fun w sw => CF.cons (lies_blk (sw.blk_eq (h := 0) rfl)) (sw.cf (.refl _))) ?_
    refine mxp (i := 5) rfl (by decide +kernel) (by decide +kernel) (by decide +kernel) rfl (fun w0 => ev_nilCheck rfl) rfl rfl (fun w sw => CF.cons (lies_blk (sw.blk_eq (h := 0) rfl)) (sw.cf (.refl _))) ?_
    refine mxp (i := 6) rfl (by decide +kernel) (by decide +kernel) (by decide +kernel) rfl (fun w0 => ev_fieldAddr (b := _) Try.underlying62 (f := _) rfl ty55 (by decide) rfl) rfl rfl (fun w sw => CF.cons (lies_blk (sw.blk_eq (h := 0) rfl)) (sw.cf (.refl _))) ?_
    refine mxp (i := 7) rfl (by decide +kernel) (by decide +kernel) (by decide +kernel) rfl (fun w0 => ld_mem (h := 300) (k := 0) ty55 rfl rfl rfl rfl (by rw [Ky.rcells_len hl (Ky.keyPub_len s)]; decide)) rfl rfl (fun w sw => CF.cons (lies_blk (sw.blk_eq (h := 0) rfl)) (sw.cf (.refl _))) ?_
    refine at_eq (i := 20) (v' := .agg (ints .u8 (s)).toArray) rfl (congrArg (fun x => Value.agg (List.toArray x)) (Ky.rcells_seed hl _ _)) ?_
    refine mxp (i := 8) rfl (by decide +kernel) (by decide +kernel) (by decide +kernel) rfl (fun w0 => ev_move rfl) rfl rfl (fun w sw => CF.cons (lies_blk (sw.blk_eq (h := 0) rfl)) (sw.cf (.refl _))) ?_
    refine mxp (i := 9) rfl (by decide +kernel) (by decide +kernel) (by decide +kernel) rfl (fun w0 => ev_nilCheck rfl) rfl rfl (fun w sw => CF.cons (lies_blk (sw.blk_eq (h := 0) rfl)) (sw.cf (.refl _))) ?_
    refine mxp (i := 10) rfl (by decide +kernel) (by decide +kernel) (by decide +kernel) rfl (fun w0 => ev_fieldAddr (b := _) Try.underlying62 (f := _) rfl ty3 (by decide) rfl) rfl rfl (fun w sw => CF.cons (lies_blk (sw.blk_eq (h := 0) rfl)) (sw.cf (.refl _))) ?_
    refine mxp (i := 11) rfl (by decide +kernel) (by decide +kernel) (by decide +kernel) rfl (fun w0 => ld_mem1 (h := 300) ty3 rfl rfl rfl (Nat.zero_add _).symm (Ky.rcells_65 hl (Ky.keyPub_len s) _ _)) rfl rfl (fun w sw => CF.cons (lies_blk (sw.blk_eq (h := 0) rfl)) (sw.cf (.refl _))) ?_
    refine mxp (i := 12) rfl (by decide +kernel) (by decide +kernel) (by decide +kernel) rfl (fun w0 => ev_move rfl) rfl rfl (fun w sw => CF.cons (lies_blk (sw.blk_eq (h := 0) rfl)) (sw.cf (.refl _))) ?_
    refine mxp (i := 14) rfl (by decide +kernel) (by decide +kernel) (by decide +kernel) rfl (fun w0 => ev_move rfl) rfl rfl (fun w sw => CF.cons (lies_blk (sw.blk_eq (h := 0) rfl)) (sw.cf (.refl _))) ?_
    refine mxp (i := 15) rfl (by decide +kernel) (by decide +kernel) (by decide +kernel) rfl (fun w0 => ev_nilCheck rfl) rfl rfl (fun w sw => CF.cons (lies_blk (sw.blk_eq (h := 0) rfl)) (sw.cf (.refl _))) ?_
    refine mxp (i := 16) rfl (by decide +kernel) (by decide +kernel) (by decide +kernel) rfl (fun w0 => ev_fieldAddr (b := _) Try.underlying62 (f := _) rfl ty22 (by decide) rfl) rfl rfl (fun w sw => CF.cons (lies_blk (sw.blk_eq (h := 0) rfl)) (sw.cf (.refl _))) ?_
    refine mxp (i := 17) rfl (by decide +kernel) (by decide +kernel) (by decide +kernel) rfl (fun w0 => ld_mem1 (h := 300) ty22 rfl rfl rfl (Nat.zero_add _).symm (Ky.rcells_32 hl _ _)) rfl rfl (fun w sw => CF.cons (lies_blk (sw.blk_eq (h := 0) rfl)) (sw.cf (.refl _))) ?_
    refine mxp (i := 18) rfl (by decide +kernel) (by decide +kernel) (by decide +kernel) rfl (fun w0 => ev_move rfl) rfl rfl (fun w sw => CF.cons (lies_blk (sw.blk_eq (h := 0) rfl)) (sw.cf (.refl _))) ?_
    refine mxp (i := 19) rfl (by decide +kernel) (by decide +kernel) (by decide +kernel) rfl (fun w0 => ev_nilCheck rfl) rfl rfl (fun w sw => CF.cons (lies_blk (sw.blk_eq (h := 0) rfl)) (sw.cf (.refl _))) ?_
    refine mxp (i := 20) rfl (by decide +kernel) (by decide +kernel) (by decide +kernel) rfl (fun w0 => ev_fieldAddr (b := _) Try.underlying62 (f := _) rfl ty3 (by decide) rfl) rfl rfl (fun w sw => CF.cons (lies_blk (sw.blk_eq (h := 0) rfl)) (sw.cf (.refl _))) ?_
    refine mxp (i := 21) rfl (by decide +kernel) (by decide +kernel) (by decide +kernel) rfl (fun w0 => ld_mem1 (h := 300) ty3 rfl rfl rfl (Nat.zero_add _).symm (Ky.rcells_65 hl (Ky.keyPub_len s) _ _)) rfl rfl (fun w sw => CF.cons (lies_blk (sw.blk_eq (h := 0) rfl)) (sw.cf (.refl _))) ?_
    refine mxp_two (i := 13) (j := 24) (by decide +kernel) (fun w sw => CF.cons (lies_blk (sw.blk_eq (h := 0) rfl)) (sw.cf (.refl _))) ?_ ?_
    ·
      refine wo (i := 13) rfl ?_
      refine st_call has73 rfl (fun w1 sw => rn 26 (rsign_any s n q m w1 (by first | rfl | assumption) (by first | decide | omega) (sw.sl_rd (h := 2) rfl))) nil_all rfl rfl (fun v26 _ => ?_)
      have hsu26 := sign_h32 s n m 36
      have hsn26 := sign_len s n m 36
      refine at_own_shape (h := 26) rfl (fun hs26 => ?_)
      refine op_nil ?_
      refine ax_then ?_
      refine mxp_two (i := 22) (j := 24) (by decide +kernel) (fun w sw => CF.cons (lies_blk (sw.blk_eq (h := 0) rfl)) (sw.cf (.refl _))) ?_ ?_
      ·
        refine wo (i := 22) rfl ?_
        refine st_call has74 rfl (fun w1 sw => rn 35 (rpath_any v (Ky.leaves s 16) (n : Int) w1 hlu (by rw [hll]; decide) (by omega) (sw.sl_rd (h := 1) rfl))) nil_all rfl rfl (fun v35 _ => ?_)
        refine at_own_shape (h := 35) rfl (fun hs35 => ?_)
        refine op_nil ?_
        refine ax_then ?_
        refine mxp (i := 23) rfl (by decide +kernel) (by decide +kernel) (by decide +kernel) rfl (fun w0 => ev_build_struct ty80 rfl pl80 rfl ((fill_put (i := 0) (off := 0) (n := 1) (vs := [.int .i64 (n : Int)]) rfl rfl rfl (Nat.le_of_ble_eq_true rfl)).trans ((fill_put (i := 1) (off := 1) (n := 1) (vs := [v26]) rfl hs26.1 rfl (Nat.le_of_ble_eq_true rfl)).trans ((fill_put (i := 2) (off := 2) (n := 1) (vs := [v35]) rfl hs35.1 rfl (Nat.le_of_ble_eq_true rfl)).trans fill_nil)))) rfl rfl (fun w sw => CF.cons (lies_blk (sw.blk_eq (h := 0) rfl)) (sw.cf (.refl _))) ?_
        refine at_eq (i := 36) (v' := .agg (List.toArray [.int .i64 (n : Int), v26, v35])) rfl rfl ?_
        refine mxp_one (i := 24) (by decide +kernel) (fun w sw => CF.cons (lies_blk (sw.blk_eq (h := 0) rfl)) (sw.cf (.refl _))) ?_
        refine wo (i := 24) rfl ?_
        refine st_alloc (h := 6) ty80 rfl rfl rfl (fun b6 => ?_)
        refine op_nil ?_
        refine ax_then ?_
        refine mxp_one (i := 25) (by decide +kernel) (fun w sw => CF.cons (lies_blk (sw.blk_eq (h := 0) rfl)) (sw.cf (.refl _))) ?_
        refine wo (i := 25) rfl ?_
        refine st_store_all 6 ty80 rfl rfl rfl rfl rfl (by intro u hu; simp at hu; rcases hu with rfl | rfl | rfl; rfl; exact hs26.2; exact hs35.2) rfl rfl ?_
        refine op_nil ?_
        refine ax_then ?_
        refine mxp_done (by decide +kernel) (fun w sw => CF.cons (lies_blk (sw.blk_eq (h := 0) rfl)) (sw.cf (.refl _))) ?_
        exact at_met ((b6, v26, v35)) (⟨hs26, hs35⟩) (.cons rfl (.cons rfl (.cons rfl (.nil _)))) (.cons rfl (.cons rfl (.cons rfl (.cons rfl (.cons rfl (.nil _)))))) (.cons rfl (.cons rfl (.nil _)))
      ·
        refine wo (i := 24) rfl ?_
        refine st_alloc (h := 6) ty80 rfl rfl rfl (fun b6 => ?_)
        refine op_nil ?_
        refine ax_then ?_
        refine mxp_one (i := 22) (by decide +kernel) (fun w sw => CF.cons (lies_blk (sw.blk_eq (h := 0) rfl)) (sw.cf (.refl _))) ?_
        refine wo (i := 22) rfl ?_
        refine st_call has74 rfl (fun w1 sw => rn 35 (rpath_any v (Ky.leaves s 16) (n : Int) w1 hlu (by rw [hll]; decide) (by omega) (sw.sl_rd (h := 1) rfl))) nil_all rfl rfl (fun v35 _ => ?_)
        refine at_own_shape (h := 35) rfl (fun hs35 => ?_)
        refine op_nil ?_
        refine ax_then ?_
        refine mxp (i := 23) rfl (by decide +kernel) (by decide +kernel) (by decide +kernel) rfl (fun w0 => ev_build_struct ty80 rfl pl80 rfl ((fill_put (i := 0) (off := 0) (n := 1) (vs := [.int .i64 (n : Int)]) rfl rfl rfl (Nat.le_of_ble_eq_true rfl)).trans ((fill_put (i := 1) (off := 1) (n := 1) (vs := [v26]) rfl hs26.1 rfl (Nat.le_of_ble_eq_true rfl)).trans ((fill_put (i := 2) (off := 2) (n := 1) (vs := [v35]) rfl hs35.1 rfl (Nat.le_of_ble_eq_true rfl)).trans fill_nil)))) rfl rfl (fun w sw => CF.cons (lies_blk (sw.blk_eq (h := 0) rfl)) (sw.cf (.refl _))) ?_
        refine at_eq (i := 36) (v' := .agg (List.toArray [.int .i64 (n : Int), v26, v35])) rfl rfl ?_
        refine mxp_one (i := 25) (by decide +kernel) (fun w sw => CF.cons (lies_blk (sw.blk_eq (h := 0) rfl)) (sw.cf (.refl _))) ?_
        refine wo (i := 25) rfl ?_
        refine st_store_all 6 ty80 rfl rfl rfl rfl rfl (by intro u hu; simp at hu; rcases hu with rfl | rfl | rfl; rfl; exact hs26.2; exact hs35.2) rfl rfl ?_
        refine op_nil ?_
        refine ax_then ?_
        refine mxp_done (by decide +kernel) (fun w sw => CF.cons (lies_blk (sw.blk_eq (h := 0) rfl)) (sw.cf (.refl _))) ?_
        exact at_met ((b6, v26, v35)) (⟨hs26, hs35⟩) (.cons rfl (.cons rfl (.cons rfl (.nil _)))) (.cons rfl (.cons rfl (.cons rfl (.cons rfl (.cons rfl (.nil _)))))) (.cons rfl (.cons rfl (.nil _)))
    ·
      refine wo (i := 24) rfl ?_
      refine st_alloc (h := 6) ty80 rfl rfl rfl (fun b6 => ?_)
      refine op_nil ?_
      refine ax_then ?_
      refine mxp_one (i := 13) (by decide +kernel) (fun w sw => CF.cons (lies_blk (sw.blk_eq (h := 0) rfl)) (sw.cf (.refl _))) ?_
      refine wo (i := 13) rfl ?_
      refine st_call has73 rfl (fun w1 sw => rn 26 (rsign_any s n q m w1 (by first | rfl | assumption) (by first | decide | omega) (sw.sl_rd (h := 2) rfl))) nil_all rfl rfl (fun v26 _ => ?_)
      have hsu26 := sign_h32 s n m 36
      have hsn26 := sign_len s n m 36
      refine at_own_shape (h := 26) rfl (fun hs26 => ?_)
      refine op_nil ?_
      refine ax_then ?_
      refine mxp_one (i := 22) (by decide +kernel) (fun w sw => CF.cons (lies_blk (sw.blk_eq (h := 0) rfl)) (sw.cf (.refl _))) ?_
      refine wo (i := 22) rfl ?_
      refine st_call has74 rfl (fun w1 sw => rn 35 (rpath_any v (Ky.leaves s 16) (n : Int) w1 hlu (by rw [hll]; decide) (by omega) (sw.sl_rd (h := 1) rfl))) nil_all rfl rfl (fun v35 _ => ?_)
      refine at_own_shape (h := 35) rfl (fun hs35 => ?_)
      refine op_nil ?_
      refine ax_then ?_
      refine mxp (i := 23) rfl (by decide +kernel) (by decide +kernel) (by decide +kernel) rfl (fun w0 => ev_build_struct ty80 rfl pl80 rfl ((fill_put (i := 0) (off := 0) (n := 1) (vs := [.int .i64 (n : Int)]) rfl rfl rfl (Nat.le_of_ble_eq_true rfl)).trans ((fill_put (i := 1) (off := 1) (n := 1) (vs := [v26]) rfl hs26.1 rfl (Nat.le_of_ble_eq_true rfl)).trans ((fill_put (i := 2) (off := 2) (n := 1) (vs := [v35]) rfl hs35.1 rfl (Nat.le_of_ble_eq_true rfl)).trans fill_nil)))) rfl rfl (fun w sw => CF.cons (lies_blk (sw.blk_eq (h := 0) rfl)) (sw.cf (.refl _))) ?_
      refine at_eq (i := 36) (v' := .agg (List.toArray [.int .i64 (n : Int), v26, v35])) rfl rfl ?_
      refine mxp_one (i := 25) (by decide +kernel) (fun w sw => CF.cons (lies_blk (sw.blk_eq (h := 0) rfl)) (sw.cf (.refl _))) ?_
      refine wo (i := 25) rfl ?_
      refine st_store_all 6 ty80 rfl rfl rfl rfl rfl (by intro u hu; simp at hu; rcases hu with rfl | rfl | rfl; rfl; exact hs26.2; exact hs35.2) rfl rfl ?_
      refine op_nil ?_
      refine ax_then ?_
      refine mxp_done (by decide +kernel) (fun w sw => CF.cons (lies_blk (sw.blk_eq (h := 0) rfl)) (sw.cf (.refl _))) ?_
      exact at_met ((b6, v26, v35)) (⟨hs26, hs35⟩) (.cons rfl (.cons rfl (.cons rfl (.nil _)))) (.cons rfl (.cons rfl (.cons rfl (.cons rfl (.cons rfl (.nil _)))))) (.cons rfl (.cons rfl (.nil _)))
  ·
    obtain ⟨b6, v26, v35⟩ := x
    dsimp only at hj ⊢
    obtain ⟨hs26, hs35⟩ := hj
    refine cd_seq ?_
    refine cd_region ?_
    refine st (ev_move rfl) rfl rfl rfl ?_
    refine st (ev_nilCheck rfl) rfl rfl rfl ?_
    refine st (ev_fieldAddr (b := _) Try.underlying62 (f := _) rfl ty3 (by decide) rfl) rfl rfl rfl ?_
    refine st (ld_blk1 (h := 0) ty3 rfl rfl rfl (Ky.rcells_65 hl (Ky.keyPub_len s) _ _)) rfl rfl rfl ?_
    refine st (ev_add64 rfl rfl (by omega) (by omega)) rfl rfl rfl ?_
    refine st (ev_nilCheck rfl) rfl rfl rfl ?_
    refine st (ev_fieldAddr (b := _) Try.underlying62 (f := _) rfl ty3 (by decide) rfl) rfl rfl rfl ?_
    refine st_store1 0 ty3 rfl rfl rfl rfl (by rw [Ky.rcells_len hl (Ky.keyPub_len s)]; decide) rfl ?_
    refine at_heq (i := 0) (v' := .blk (b) (.cells (Ky.rcells s v (Ky.keyPub s) (((n + 1 : Nat) : Int))).toArray 62)) rfl (congrArg (fun l : List Value => Ent.blk b (.cells l.toArray 62)) (Ky.rcells_set65 hl (Ky.keyPub_len s) _ _ _)) ?_
    refine op_nil ?_
    refine ax_then ?_
    refine At.regs (L' := [(4, _), (6, _)]) (.cons rfl (.cons rfl (.nil _))) ?_
    refine cd_seq ?_
    refine cd_region ?_
    refine st (ld_blk_all (h := 6) ty80 rfl rfl rfl (by first | omega | (simp only [List.length_append, List.length_cons, List.length_nil, List.length_set, List.length_replicate, List.length_take, List.length_drop, ints_length, wr_length, sha_len, node_len, recov_len, Ky.named_len, Ky.keyPub_len] <;> omega) | rfl)) rfl rfl rfl ?_
    refine st_store_all 4 ty80 rfl rfl rfl rfl rfl (by intro u hu; simp at hu; rcases hu with rfl | rfl | rfl; rfl; exact hs26.2; exact hs35.2) rfl rfl ?_
    refine st (ev_assign rfl) rfl rfl rfl ?_
    refine op_nil ?_
    refine ax_then ?_
    refine At.regs (L' := [(4, _), (5, _)]) (.cons rfl (.cons rfl (.nil _))) ?_
    refine cd_ret ?_
    refine rt_cell_tmp (h0 := 4) (.inl rfl) Try.results40 ty80 rfl rfl rfl (by first | omega | (simp only [List.length_append, List.length_cons, List.length_nil, List.length_set, List.length_replicate, List.length_take, List.length_drop, ints_length, wr_length, sha_len, node_len, recov_len, Ky.named_len, Ky.keyPub_len] <;> omega) | rfl) rfl ?_
    exact fun w1 sw => ⟨(v26, v35), trivial, rfl, (sw.gives (N := [(0, _), (26, _), (35, _)]) (.cons rfl (.cons rfl (.cons rfl (.nil _))))).rn3 (by decide) (by decide) (by decide) 0 1 2⟩
end Go.Proofs.Ytgfnmolbagilmaa

namespace Go.Proofs.Ytgfnmolbagilmaa.Fw
open Go Go.RowKit Go.Proofs.Ytgfnmolbagilmaa
set_option linter.unusedSimpArgs false
set_option linter.unusedVariables false
theorem lk_zip : ∀ {ks : List Nat} {es : List Ent} {h : Nat} {e : Ent}, lk (ks.zip es) h = some e → es[ks.idxOf h]? = some e ∧ h ∈ ks
  | [], _, _, _, hh => by simp [lk] at hh
  | _ :: _, [], _, _, hh => by simp [lk] at hh
  | k :: ks, x :: es, h, e, hh => by
    by_cases e1 : k = h
    · subst e1
      rw [List.zip_cons_cons, lk_cons_same] at hh
      simp [List.idxOf_cons, hh]
    · rw [List.zip_cons_cons, lk_cons_ne e1] at hh
      obtain ⟨h1, h2⟩ := lk_zip (es := es) hh
      have hb : (k == h) = false := by simpa using e1
      refine ⟨?_, List.mem_cons_of_mem _ h2⟩
      rw [List.idxOf_cons, hb]
      simpa using h1
theorem lk_range {es : List Ent} {n i : Nat} {e : Ent} (hi : i < n) (h : es[i]? = some e) : lk ((List.range n).zip es) i = some e := by
  have key : ∀ (m s : Nat) (es : List Ent), i < s + m → s ≤ i → es[i - s]? = some e → lk ((List.range' s m).zip es) i = some e := by
    intro m
    induction m with
    | zero => intro s es h1 h2; omega
    | succ m ih =>
      intro s es h1 h2 h3
      cases es with
      | nil => simp at h3
      | cons x es =>
        rw [List.range'_succ, List.zip_cons_cons]
        by_cases e1 : s = i
        · subst e1
          rw [lk_cons_same]
          simpa using h3
        · rw [lk_cons_ne e1]
          refine ih (s + 1) es (by omega) (by omega) ?_
          have : i - s = (i - (s + 1)) + 1 := by omega
          rw [this] at h3
          simpa using h3
  have := key n 0 es (by omega) (Nat.zero_le _) (by simpa using h)
  rwa [← List.range_eq_range'] at this
theorem Gives.rnz {w w' : World} {M : List Nat} {es : List Ent} (ks : List Nat) {n : Nat} (hn : ks.length = n) (g : Gives w w' M ((List.range n).zip es)) : Gives w w' M (ks.zip es) := by
  refine g.rnf (fun h => ks.idxOf h) (fun h x hh => ?_) (fun h h' x x' hh hh' hc => ?_)
  · obtain ⟨h1, h2⟩ := lk_zip (es := es) hh
    exact lk_range (by rw [← hn]; exact List.idxOf_lt_length_of_mem h2) h1
  · obtain ⟨_, h2⟩ := lk_zip (es := es) hh
    obtain ⟨_, h2'⟩ := lk_zip (es := es) hh'
    have e1 := List.getElem_idxOf (List.idxOf_lt_length_of_mem h2)
    have e2 := List.getElem_idxOf (List.idxOf_lt_length_of_mem h2')
    have hc : ks.idxOf h = ks.idxOf h' := hc
    rw [← e1, ← e2]
    congr 1
theorem rnz {P : Program} {f : FuncId} {vs : Array Value} {w : World} {ι : Type} {M : List Nat} {Φ : ι → Prop} {v : ι → Value} {es : ι → List Ent} (ks : List Nat) {n : Nat} (hn : ks.length = n) (h : Calls P f vs w (Post w M Φ v fun x => (List.range n).zip (es x))) :
    Calls P f vs w (Post w M Φ v fun x => ks.zip (es x)) :=
  h.mono fun _ _ ⟨x, h1, h2, h3⟩ => ⟨x, h1, h2, h3.rnz ks hn⟩
theorem rn5 {P : Program} {f : FuncId} {vs : Array Value} {w : World} {ι : Type} {M : List Nat} {Φ : ι → Prop} {v : ι → Value} {e0 e1 e2 e3 e4 : ι → Ent} (i j k l m : Nat) (h : Calls P f vs w (Post w M Φ v fun x => [(0, e0 x), (1, e1 x), (2, e2 x), (3, e3 x), (4, e4 x)])) :
    Calls P f vs w (Post w M Φ v fun x => [(i, e0 x), (j, e1 x), (k, e2 x), (l, e3 x), (m, e4 x)]) := rnz (es := fun x => [e0 x, e1 x, e2 x, e3 x, e4 x]) [i, j, k, l, m] rfl h
theorem lk_nth : ∀ {ks : List Nat} {es : List Ent} {i : Nat} {e : Ent} (hn : ks.Nodup) (hi : i < ks.length), es[i]? = some e → lk (ks.zip es) ks[i] = some e
  | [], _, _, _, _, hi, _ => by simp at hi
  | k :: ks, [], _, _, _, _, h => by simp at h
  | k :: ks, x :: es, 0, e, _, _, h => by
    rw [List.zip_cons_cons, List.getElem_cons_zero, lk_cons_same]
    simpa using h
  | k :: ks, x :: es, i + 1, e, hn, hi, h => by
    rw [List.nodup_cons] at hn
    have hi' : i < ks.length := by simpa using hi
    have hne : k ≠ ks[i] := fun e1 => hn.1 (e1 ▸ List.getElem_mem hi')
    rw [List.zip_cons_cons, List.getElem_cons_succ, lk_cons_ne hne]
    exact lk_nth hn.2 hi' (by simpa using h)
theorem Gives.unz {w w' : World} {M : List Nat} {es : List Ent} {ks : List Nat} {n : Nat} (hnd : ks.Nodup) (hn : ks.length = n) (g : Gives w w' M (ks.zip es)) : Gives w w' M ((List.range n).zip es) := by
  have key : ∀ h e, lk ((List.range n).zip es) h = some e → ∃ hh : h < ks.length, es[h]? = some e := fun h e hh => by
    obtain ⟨h1, h2⟩ := lk_zip hh
    have h3 : h < n := List.mem_range.1 h2
    have h4 := List.getElem_idxOf (List.idxOf_lt_length_of_mem h2)
    rw [List.getElem_range] at h4
    rw [h4] at h1
    exact ⟨by omega, h1⟩
  refine g.rnf (fun h => ks.getD h 0) (fun h x hh => ?_) (fun h h' x x' hh hh' hc => ?_)
  · obtain ⟨h1, h2⟩ := key h x hh
    have e1 : ks.getD h 0 = ks[h] := by rw [List.getD_eq_getElem?_getD, List.getElem?_eq_getElem h1]; rfl
    show lk _ (ks.getD h 0) = _
    rw [e1]
    exact lk_nth hnd h1 h2
  · obtain ⟨h1, _⟩ := key h x hh
    obtain ⟨h2, _⟩ := key h' x' hh'
    have hc : ks.getD h 0 = ks.getD h' 0 := hc
    rw [List.getD_eq_getElem?_getD, List.getElem?_eq_getElem h1, List.getD_eq_getElem?_getD, List.getElem?_eq_getElem h2] at hc
    exact (List.getElem_inj hnd).1 hc
theorem Gives.rn5 {w w' : World} {M : List Nat} {e0 e1 e2 e3 e4 : Ent} {i j k l m : Nat} (g : Gives w w' M [(i, e0), (j, e1), (k, e2), (l, e3), (m, e4)]) (h : [i, j, k, l, m].Nodup) : Gives w w' M [(0, e0), (1, e1), (2, e2), (3, e3), (4, e4)] :=
  Gives.unz (es := [e0, e1, e2, e3, e4]) (ks := [i, j, k, l, m]) h rfl g
theorem mod_blk5 {H : List (Nat × Ent)} {ι : Type} {k b j m n p : Nat} {o : Obj} {e' e2 e3 e4 e5 : ι → Ent} (hh : lk H k = some (.blk b o)) : ∀ b', b' ∈ [b] → ∃ k' e, lk H k' = some e ∧ b' ∈ e.ids ∧ ∀ x, lk [(k, e' x), (j, e2 x), (m, e3 x), (n, e4 x), (p, e5 x)] k' ≠ none :=
  fun b' hb => ⟨k, _, hh, by simpa [Ent.ids] using hb, fun x => by simp [lk_cons_same]⟩
/-- Nothing was written: a block is as it was; what is handed back besides is nil. -/
theorem Gives.still {w w' : World} {b : Nat} {o : Obj} {es : List Ent} {n : Nat} (hb : w.heap[b]? = some o) (g : Gives w w' [] []) (he : ∀ (i : Nat) (e : Ent), es[i]? = some e → (i = 0 ∧ e = .blk b o) ∨ (e.ids = [] ∧ e.holds w')) : Gives w w' [b] ((List.range n).zip es) := by
  have key : ∀ h e, lk ((List.range n).zip es) h = some e → es[h]? = some e := fun h e hh => by
    obtain ⟨h1, h2⟩ := lk_zip hh
    have h4 := List.getElem_idxOf (List.idxOf_lt_length_of_mem h2)
    rw [List.getElem_range] at h4
    rwa [h4] at h1
  have hlt : b < w.heap.size := (Array.getElem?_eq_some_iff.1 hb).1
  refine ⟨g.tape, g.os, g.output, g.size, fun b' h1 _ => g.old b' h1 (by simp), fun h e hh => ?_, fun h e hh b' hb' => ?_, fun h e h' e' hh hh' hne b' hb' => ?_⟩
  · rcases he h e (key h e hh) with ⟨_, rfl⟩ | ⟨_, h2⟩
    · show w'.heap[b]? = some o
      rw [g.old b hlt (by simp)]
      exact hb
    · exact h2
  · rcases he h e (key h e hh) with ⟨_, rfl⟩ | ⟨h2, _⟩
    · simp only [Ent.ids, List.mem_singleton] at hb'
      exact .inr (by simp [hb'])
    · rw [h2] at hb'; cases hb'
  · rcases he h e (key h e hh) with ⟨h1, rfl⟩ | ⟨h2, _⟩
    · rcases he h' e' (key h' e' hh') with ⟨h1', rfl⟩ | ⟨h2', _⟩
      · exact absurd (h1.trans h1'.symm) hne
      · rw [h2']; simp
    · rw [h2] at hb'; cases hb'
theorem own_nil0 {w : World} (T sz : Nat) : (Ent.own (.slice none 0 0) T sz []).ids = [] ∧ (Ent.own (.slice none 0 0) T sz []).holds w := ⟨rfl, .inl ⟨rfl, rfl⟩⟩
theorem Gives.still5 {w w' : World} {b : Nat} {o : Obj} {T1 T2 T3 T4 s1 s2 s3 s4 : Nat} (hb : w.heap[b]? = some o) (g : Gives w w' [] []) :
    Gives w w' [b] [(0, .blk b o), (1, .own (.slice none 0 0) T1 s1 []), (2, .own (.slice none 0 0) T2 s2 []), (3, .own (.slice none 0 0) T3 s3 []), (4, .own (.slice none 0 0) T4 s4 [])] :=
  Gives.still (n := 5) (es := [.blk b o, .own (.slice none 0 0) T1 s1 [], .own (.slice none 0 0) T2 s2 [], .own (.slice none 0 0) T3 s3 [], .own (.slice none 0 0) T4 s4 []]) hb g (fun i e hi => by
    match i, hi with
    | 0, hi => exact .inl ⟨rfl, (Option.some.inj hi).symm⟩
    | 1, hi => cases hi; exact .inr (own_nil0 _ _)
    | 2, hi => cases hi; exact .inr (own_nil0 _ _)
    | 3, hi => cases hi; exact .inr (own_nil0 _ _)
    | 4, hi => cases hi; exact .inr (own_nil0 _ _)
    | i + 5, hi => simp at hi)
end Go.Proofs.Ytgfnmolbagilmaa.Fw

namespace Go.Proofs.Ytgfnmolbagilmaa
open Go Go.RowKit Fw
open Sha
open Ots
open Mk
set_option linter.unusedVariables false
set_option linter.unusedSimpArgs false
set_option maxRecDepth 20000 in
set_option maxHeartbeats 1000000 in
theorem cnum_any (n : Int) (w : World) : Calls Try.prog 43 #[.int .i64 n] w (PostV w (.bool (decide (Ck.isN n)))) := by
  refine calls_at (vs := [.int .i64 n]) (X := []) (H := []) (F := []) 9 Try.func43 rfl rfl rfl (Sat.start0 w) ?_
  refine cd_seq ?_
  refine cd_region ?_
  refine st (ev_assign rfl) rfl rfl rfl ?_
  refine op_nil ?_
  refine ax_then ?_
  refine At.regs (L' := [(0, _), (2, _)]) (.cons rfl (.cons rfl (.nil _))) ?_
  refine cd_seq ?_
  refine cd_region ?_
  refine st (ev_move rfl) rfl rfl rfl ?_
  refine st (ev_geq rfl rfl) rfl rfl rfl ?_
  refine st (ev_move rfl) rfl rfl rfl ?_
  refine at_split_if (i := 5) rfl (fun hg5 => ?_) (fun hg5 => ?_)
  ·
    refine st (ev_move rfl) rfl rfl rfl ?_
    refine st (ev_leq rfl rfl) rfl rfl rfl ?_
    refine st (ev_pick_t rfl rfl) rfl rfl rfl ?_
    refine st (ev_assign rfl) rfl rfl rfl ?_
    refine op_nil ?_
    refine ax_then ?_
    refine At.regs (L' := [(2, _)]) (.cons rfl (.nil _)) ?_
    refine cd_ret ?_
    refine rt_tmp (.inl rfl) Try.results43 rfl ?_
    exact fun w1 sw => ⟨congrArg (fun b => Ending.returned (Value.bool b)) (by first | exact (decide_eq_false (fun hh => hg5 hh.1)).symm | exact decide_eq_decide.2 ⟨fun hh => ⟨hg5, hh⟩, fun hh => hh.2⟩), sw.gives (.nil _)⟩
  ·
    refine st_skip rfl rfl rfl ?_
    refine st_skip rfl rfl rfl ?_
    refine st (ev_pick_f rfl rfl) rfl rfl rfl ?_
    refine st (ev_assign rfl) rfl rfl rfl ?_
    refine op_nil ?_
    refine ax_then ?_
    refine At.regs (L' := [(2, _)]) (.cons rfl (.nil _)) ?_
    refine cd_ret ?_
    refine rt_tmp (.inl rfl) Try.results43 rfl ?_
    exact fun w1 sw => ⟨congrArg (fun b => Ending.returned (Value.bool b)) (by first | exact (decide_eq_false (fun hh => hg5 hh.1)).symm | exact decide_eq_decide.2 ⟨fun hh => ⟨hg5, hh⟩, fun hh => hh.2⟩), sw.gives (.nil _)⟩
set_option maxRecDepth 20000 in
set_option maxHeartbeats 1000000 in
theorem qcnum_any (n : Int) (w : World) : Calls Try.prog 47 #[.int .i64 n] w (PostV w (.bool (decide (Ck.isN n)))) := by
  refine calls_at (vs := [.int .i64 n]) (X := []) (H := []) (F := []) 9 Try.func47 rfl rfl rfl (Sat.start0 w) ?_
  refine cd_seq ?_
  refine cd_region ?_
  refine st (ev_assign rfl) rfl rfl rfl ?_
  refine op_nil ?_
  refine ax_then ?_
  refine At.regs (L' := [(0, _), (2, _)]) (.cons rfl (.cons rfl (.nil _))) ?_
  refine cd_seq ?_
  refine cd_region ?_
  refine st (ev_move rfl) rfl rfl rfl ?_
  refine st (ev_geq rfl rfl) rfl rfl rfl ?_
  refine st (ev_move rfl) rfl rfl rfl ?_
  refine at_split_if (i := 5) rfl (fun hg5 => ?_) (fun hg5 => ?_)
  ·
    refine st (ev_move rfl) rfl rfl rfl ?_
    refine st (ev_leq rfl rfl) rfl rfl rfl ?_
    refine st (ev_pick_t rfl rfl) rfl rfl rfl ?_
    refine st (ev_assign rfl) rfl rfl rfl ?_
    refine op_nil ?_
    refine ax_then ?_
    refine At.regs (L' := [(2, _)]) (.cons rfl (.nil _)) ?_
    refine cd_ret ?_
    refine rt_tmp (.inl rfl) Try.results47 rfl ?_
    exact fun w1 sw => ⟨congrArg (fun b => Ending.returned (Value.bool b)) (by first | exact (decide_eq_false (fun hh => hg5 hh.1)).symm | exact decide_eq_decide.2 ⟨fun hh => ⟨hg5, hh⟩, fun hh => hh.2⟩), sw.gives (.nil _)⟩
  ·
    refine st_skip rfl rfl rfl ?_
    refine st_skip rfl rfl rfl ?_
    refine st (ev_pick_f rfl rfl) rfl rfl rfl ?_
    refine st (ev_assign rfl) rfl rfl rfl ?_
    refine op_nil ?_
    refine ax_then ?_
    refine At.regs (L' := [(2, _)]) (.cons rfl (.nil _)) ?_
    refine cd_ret ?_
    refine rt_tmp (.inl rfl) Try.results47 rfl ?_
    exact fun w1 sw => ⟨congrArg (fun b => Ending.returned (Value.bool b)) (by first | exact (decide_eq_false (fun hh => hg5 hh.1)).symm | exact decide_eq_decide.2 ⟨fun hh => ⟨hg5, hh⟩, fun hh => hh.2⟩), sw.gives (.nil _)⟩
set_option maxRecDepth 20000 in
set_option maxHeartbeats 8000000 in
theorem check_any (p : List Int) (pb mv : Value) (body : List Int) (ms : List Qm.Mark) (nonce : Int) (w : World) (hp : p.length = 32) (hbody : Rd w pb 1 (ints .u8 body)) (hbl : body.length ≤ 140737488352000) (hbb : Byt body) (ha : Qm.AOk ms) (hml : ms.length ≤ 1000000) (hm : Rd w mv 35 (Qm.mflat ms)) (hmr : ∀ x, x ∈ ms → Qm.MRd w x) : Calls Try.prog 28 #[.agg (ints .u8 (p)).toArray, .agg (List.toArray [pb, mv]), .int .i64 nonce] w (PostV w (.tuple #[.int .i64 (Ck.chk p body ms nonce).1, .int .i64 (Ck.chk p body ms nonce).2])) := by
  have hsb := rd_shape hbody
  have hl1 := Ck.len1 body
  have hl2 := Ck.len2 body
  refine calls_at (vs := [.agg (ints .u8 (p)).toArray, .agg (List.toArray [pb, mv]), .int .i64 nonce]) (X := []) (H := []) (F := [(22, .sl (pb) 1 (ints .u8 (body))), (21, .sl (mv) 35 (Qm.mflat (ms)))]) 50 Try.func28 rfl rfl rfl (((Sat.rd0 21 hm).more 22 hbody)) ?_
  refine cd_seq ?_
  refine cd_region ?_
  refine st_box (h := 3) rfl rfl rfl rfl (fun b3 => ?_)
  refine st_box (h := 4) rfl rfl rfl rfl (fun b4 => ?_)
  refine st (ev_assign rfl) rfl rfl rfl ?_
  refine st (ev_assign rfl) rfl rfl rfl ?_
  refine op_nil ?_
  refine ax_then ?_
  refine At.regs (L' := [(2, _), (3, _), (4, _), (6, _), (7, _)]) (.cons rfl (.cons rfl (.cons rfl (.cons rfl (.cons rfl (.nil _)))))) ?_
  refine cd_seq ?_
  refine cd_seq ?_
  refine cd_region ?_
  refine st (ld_blk_all (h := 4) ty31 rfl rfl rfl (by first | omega | (simp only [List.length_append, List.length_cons, List.length_nil, List.length_set, List.length_replicate, List.length_take, List.length_drop, ints_length, wr_length, sha_len, node_len, recov_len, Ky.named_len, Ky.keyPub_len, Ky.hashOf_len] <;> omega) | rfl)) rfl rfl rfl ?_
  refine st (ld_blk_all (h := 3) ty55 rfl rfl rfl (by rw [ints_length]; exact hp)) rfl rfl rfl ?_
  refine st_bsh1 (h := 14) Try.underlying22 ty55 rfl (by first | assumption | omega) rfl rfl (fun b14 hu14 => ?_)
  refine st (ev_build_struct ty24 rfl pl24 rfl ((fill_put (i := 0) (off := 0) (n := 1) (vs := [.slice (some ⟨b14, 0, none⟩) 1 1]) rfl rfl rfl (Nat.le_of_ble_eq_true rfl)).trans ((fill_put (i := 1) (off := 1) (n := 1) (vs := [.int .i64 1]) rfl rfl rfl (Nat.le_of_ble_eq_true rfl)).trans fill_nil))) rfl rfl rfl ?_
  refine at_eq (i := 15) (v' := .agg (List.toArray [.slice (some ⟨b14, 0, none⟩) 1 1, .int .i64 1])) rfl rfl ?_
  refine st_callv has32 rfl (fun w1 sw => meets_any pb mv (.slice (some ⟨b14, 0, none⟩) 1 1) 1 body ms [p] w1 (sw.sl_rd (h := 22) rfl) hbl ha hml (sw.sl_rd (h := 21) rfl) (fun x hx => (Qm.Keeps.of sw).mrd (hmr x hx)) (fun h hh => by rw [List.mem_singleton.1 hh]; exact hp) (by simp) (sw.own_rd (h := 14) rfl)) rfl rfl ?_
  refine st (ev_not_if rfl) rfl rfl rfl ?_
  refine op_nil ?_
  refine ax_then ?_
  refine At.regs (L' := [(2, _), (4, _), (6, _), (7, _), (17, _)]) (.cons rfl (.cons rfl (.cons rfl (.cons rfl (.cons rfl (.nil _)))))) ?_
  refine cd_if rfl (fun hc17 => ?_) (fun hc17 => ?_)
  ·
    refine cd_seq ?_
    refine cd_region ?_
    refine st (ev_assign rfl) rfl rfl rfl ?_
    refine st (ev_assign rfl) rfl rfl rfl ?_
    refine op_nil ?_
    refine ax_then ?_
    refine At.regs (L' := [(2, _), (4, _), (6, _), (7, _)]) (.cons rfl (.cons rfl (.cons rfl (.cons rfl (.nil _))))) ?_
    refine cd_ret ?_
    refine ax_then_ret ?_
    refine rt_tmp2 (.inl rfl) Try.results28 rfl rfl ?_
    first
    | (exact fun w1 sw => ⟨by rw [Ck.chk, if_neg hc17], sw.gives (.nil _)⟩)
    | (exact fun w1 sw => ⟨by rw [Ck.chk, if_pos (Classical.not_not.1 hc17), if_neg (fun ⟨a1, a2, a3, a4⟩ => by first | exact hg31 a1 | exact hg35 a2 | exact hg40 a3 | exact hc27 a4)], sw.gives (.nil _)⟩)
    | (have hfm : Ck.form body := ⟨Classical.not_not.1 hg31, Classical.not_not.1 hg35, Classical.not_not.1 hg40, Classical.not_not.1 hc27⟩
       exact fun w1 sw => ⟨by rw [Ck.chk, if_pos (Classical.not_not.1 hc17), if_pos hfm]; first | rw [if_neg hc45] | rw [if_pos (Classical.not_not.1 hc45)], sw.gives (.nil _)⟩)
  ·
    refine cd_skip ?_
    refine ax_then ?_
    refine At.regs (L' := [(2, _), (4, _), (6, _), (7, _)]) (.cons rfl (.cons rfl (.cons rfl (.cons rfl (.nil _))))) ?_
    refine cd_seq ?_
    refine cd_region ?_
    refine st (ev_fieldAddr (b := _) Try.underlying31 (f := _) rfl ty28 (by decide) rfl) rfl rfl rfl ?_
    refine st (ld_blk1 (h := 4) ty28 rfl rfl rfl rfl) rfl rfl rfl ?_
    refine st_call has50 rfl (fun w1 sw => rn2 20 120 (newreader_any pb body w1 hbl (sw.sl_rd (h := 22) rfl))) nil_all rfl rfl (fun x20 _ => ?_)
    obtain ⟨b20, lv20⟩ := x20
    dsimp only
    refine at_freeze (h := 120) (H' := [(20, _)]) 30 rfl (.cons rfl (.nil _)) rfl ?_
    refine st (ev_assign rfl) rfl rfl rfl ?_
    refine op_nil ?_
    refine ax_then ?_
    refine At.regs (L' := [(2, _), (6, _), (7, _), (8, _)]) (.cons rfl (.cons rfl (.cons rfl (.cons rfl (.nil _))))) ?_
    refine cd_seq ?_
    refine cd_region ?_
    refine st (ev_move rfl) rfl rfl rfl ?_
    refine st_call has51 rfl (fun w1 sw => rn 20 (rnum_g b20 lv20 (false) (body) w1 (sw.blk_eq (h := 20) rfl) (sw.sl_rd (h := 30) rfl) (sw.off 30 _ 20 _ rfl rfl _ (by simp [Ent.ids])) (by omega))) (mod_blk rfl) rfl rfl (fun x22 hx22 => ?_)
    refine at_fmap (h := 30) 31 rfl (fun w1 hh => hx22.rd w1 hh) hx22.blk hx22.nil ?_
    refine st (ev_move rfl) rfl rfl rfl ?_
    refine st_call has51 rfl (fun w1 sw => rn 20 (rnum_g b20 x22 (false || Rr.nBad body) (Ck.r1 body) w1 (sw.blk_eq (h := 20) rfl) (sw.sl_rd (h := 31) rfl) (sw.off 31 _ 20 _ rfl rfl _ (by simp [Ent.ids])) (by omega))) (mod_blk rfl) rfl rfl (fun x24 hx24 => ?_)
    refine at_fmap (h := 31) 32 rfl (fun w1 hh => hx24.rd w1 hh) hx24.blk hx24.nil ?_
    refine st (ev_move rfl) rfl rfl rfl ?_
    refine st_call has51 rfl (fun w1 sw => rn 20 (rnum_g b20 x24 (false || Rr.nBad body || Rr.nBad (Ck.r1 body)) (Ck.r2 body) w1 (sw.blk_eq (h := 20) rfl) (sw.sl_rd (h := 32) rfl) (sw.off 32 _ 20 _ rfl rfl _ (by simp [Ent.ids])) (by omega))) (mod_blk rfl) rfl rfl (fun x26 hx26 => ?_)
    refine at_fmap (h := 32) 33 rfl (fun w1 hh => hx26.rd w1 hh) hx26.blk hx26.nil ?_
    refine st (ev_assign rfl) rfl rfl rfl ?_
    refine st (ev_assign rfl) rfl rfl rfl ?_
    refine st (ev_assign rfl) rfl rfl rfl ?_
    refine op_nil ?_
    refine ax_then ?_
    refine At.regs (L' := [(2, _), (6, _), (7, _), (8, _), (9, _), (10, _), (11, _)]) (.cons rfl (.cons rfl (.cons rfl (.cons rfl (.cons rfl (.cons rfl (.cons rfl (.nil _)))))))) ?_
    refine cd_seq ?_
    refine cd_block ?_
    refine cd_seq ?_
    refine cd_region ?_
    refine st (ev_move rfl) rfl rfl rfl ?_
    refine st_callv has52 rfl (fun w1 sw => rwhole_any b20 x26 (false || Rr.nBad body || Rr.nBad (Ck.r1 body) || Rr.nBad (Ck.r2 body)) (Ck.r3 body) w1 (lies_blk (sw.blk_eq (h := 20) rfl)) (sw.sl_rd (h := 33) rfl)) rfl rfl ?_
    refine at_eq (i := 29) (v' := .bool (decide (Ck.whole body))) rfl (by rw [Ck.whole_eq]) ?_
    refine st (ev_not_if rfl) rfl rfl rfl ?_
    refine st (ev_move rfl) rfl rfl rfl ?_
    refine at_split_if (i := 31) rfl (fun hg31 => ?_) (fun hg31 => ?_)
    ·
      refine st_skip rfl rfl rfl ?_
      refine st_skip rfl rfl rfl ?_
      refine st (ev_pick_t rfl rfl) rfl rfl rfl ?_
      refine st (ev_move rfl) rfl rfl rfl ?_
      refine st_skip rfl rfl rfl ?_
      refine st_skip rfl rfl rfl ?_
      refine st_skip rfl rfl rfl ?_
      refine st (ev_pick_t rfl rfl) rfl rfl rfl ?_
      refine st (ev_move rfl) rfl rfl rfl ?_
      refine st_skip rfl rfl rfl ?_
      refine st_skip rfl rfl rfl ?_
      refine st_skip rfl rfl rfl ?_
      refine st (ev_pick_t rfl rfl) rfl rfl rfl ?_
      refine st (ev_assign rfl) rfl rfl rfl ?_
      refine op_nil ?_
      refine ax_then ?_
      refine At.regs (L' := [(2, _), (6, _), (7, _), (10, _), (11, _), (27, _)]) (.cons rfl (.cons rfl (.cons rfl (.cons rfl (.cons rfl (.cons rfl (.nil _))))))) ?_
      refine cd_true rfl ?_
      refine cd_seq ?_
      refine cd_region ?_
      refine st (ev_assign rfl) rfl rfl rfl ?_
      refine st (ev_assign rfl) rfl rfl rfl ?_
      refine op_nil ?_
      refine ax_then ?_
      refine At.regs (L' := [(6, _), (7, _), (11, _)]) (.cons rfl (.cons rfl (.cons rfl (.nil _)))) ?_
      refine cd_ret ?_
      refine ax_block_ret ?_
      refine ax_then_ret ?_
      refine rt_tmp2 (.inl rfl) Try.results28 rfl rfl ?_
      first
      | (exact fun w1 sw => ⟨by rw [Ck.chk, if_neg hc17], sw.gives (.nil _)⟩)
      | (exact fun w1 sw => ⟨by rw [Ck.chk, if_pos (Classical.not_not.1 hc17), if_neg (fun ⟨a1, a2, a3, a4⟩ => by first | exact hg31 a1 | exact hg35 a2 | exact hg40 a3 | exact hc27 a4)], sw.gives (.nil _)⟩)
      | (have hfm : Ck.form body := ⟨Classical.not_not.1 hg31, Classical.not_not.1 hg35, Classical.not_not.1 hg40, Classical.not_not.1 hc27⟩
         exact fun w1 sw => ⟨by rw [Ck.chk, if_pos (Classical.not_not.1 hc17), if_pos hfm]; first | rw [if_neg hc45] | rw [if_pos (Classical.not_not.1 hc45)], sw.gives (.nil _)⟩)
    ·
      refine st (ev_move rfl) rfl rfl rfl ?_
      refine st (ev_neq rfl rfl) rfl rfl rfl ?_
      refine st (ev_pick_f rfl rfl) rfl rfl rfl ?_
      refine st (ev_move rfl) rfl rfl rfl ?_
      refine at_split_if (i := 35) rfl (fun hg35 => ?_) (fun hg35 => ?_)
      ·
        refine st_skip rfl rfl rfl ?_
        refine st_skip rfl rfl rfl ?_
        refine st_skip rfl rfl rfl ?_
        refine st (ev_pick_t rfl rfl) rfl rfl rfl ?_
        refine st (ev_move rfl) rfl rfl rfl ?_
        refine st_skip rfl rfl rfl ?_
        refine st_skip rfl rfl rfl ?_
        refine st_skip rfl rfl rfl ?_
        refine st (ev_pick_t rfl rfl) rfl rfl rfl ?_
        refine st (ev_assign rfl) rfl rfl rfl ?_
        refine op_nil ?_
        refine ax_then ?_
        refine At.regs (L' := [(2, _), (6, _), (7, _), (10, _), (11, _), (27, _)]) (.cons rfl (.cons rfl (.cons rfl (.cons rfl (.cons rfl (.cons rfl (.nil _))))))) ?_
        refine cd_true rfl ?_
        refine cd_seq ?_
        refine cd_region ?_
        refine st (ev_assign rfl) rfl rfl rfl ?_
        refine st (ev_assign rfl) rfl rfl rfl ?_
        refine op_nil ?_
        refine ax_then ?_
        refine At.regs (L' := [(6, _), (7, _), (11, _)]) (.cons rfl (.cons rfl (.cons rfl (.nil _)))) ?_
        refine cd_ret ?_
        refine ax_block_ret ?_
        refine ax_then_ret ?_
        refine rt_tmp2 (.inl rfl) Try.results28 rfl rfl ?_
        first
        | (exact fun w1 sw => ⟨by rw [Ck.chk, if_neg hc17], sw.gives (.nil _)⟩)
        | (exact fun w1 sw => ⟨by rw [Ck.chk, if_pos (Classical.not_not.1 hc17), if_neg (fun ⟨a1, a2, a3, a4⟩ => by first | exact hg31 a1 | exact hg35 a2 | exact hg40 a3 | exact hc27 a4)], sw.gives (.nil _)⟩)
        | (have hfm : Ck.form body := ⟨Classical.not_not.1 hg31, Classical.not_not.1 hg35, Classical.not_not.1 hg40, Classical.not_not.1 hc27⟩
           exact fun w1 sw => ⟨by rw [Ck.chk, if_pos (Classical.not_not.1 hc17), if_pos hfm]; first | rw [if_neg hc45] | rw [if_pos (Classical.not_not.1 hc45)], sw.gives (.nil _)⟩)
      ·
        refine st (ev_move rfl) rfl rfl rfl ?_
        refine st_callv has43 rfl (fun w1 sw => cnum_any _ w1) rfl rfl ?_
        refine st (ev_not_if rfl) rfl rfl rfl ?_
        refine st (ev_pick_f rfl rfl) rfl rfl rfl ?_
        refine st (ev_move rfl) rfl rfl rfl ?_
        refine at_split_if (i := 40) rfl (fun hg40 => ?_) (fun hg40 => ?_)
        ·
          refine st_skip rfl rfl rfl ?_
          refine st_skip rfl rfl rfl ?_
          refine st_skip rfl rfl rfl ?_
          refine st (ev_pick_t rfl rfl) rfl rfl rfl ?_
          refine st (ev_assign rfl) rfl rfl rfl ?_
          refine op_nil ?_
          refine ax_then ?_
          refine At.regs (L' := [(2, _), (6, _), (7, _), (10, _), (11, _), (27, _)]) (.cons rfl (.cons rfl (.cons rfl (.cons rfl (.cons rfl (.cons rfl (.nil _))))))) ?_
          refine cd_true rfl ?_
          refine cd_seq ?_
          refine cd_region ?_
          refine st (ev_assign rfl) rfl rfl rfl ?_
          refine st (ev_assign rfl) rfl rfl rfl ?_
          refine op_nil ?_
          refine ax_then ?_
          refine At.regs (L' := [(6, _), (7, _), (11, _)]) (.cons rfl (.cons rfl (.cons rfl (.nil _)))) ?_
          refine cd_ret ?_
          refine ax_block_ret ?_
          refine ax_then_ret ?_
          refine rt_tmp2 (.inl rfl) Try.results28 rfl rfl ?_
          first
          | (exact fun w1 sw => ⟨by rw [Ck.chk, if_neg hc17], sw.gives (.nil _)⟩)
          | (exact fun w1 sw => ⟨by rw [Ck.chk, if_pos (Classical.not_not.1 hc17), if_neg (fun ⟨a1, a2, a3, a4⟩ => by first | exact hg31 a1 | exact hg35 a2 | exact hg40 a3 | exact hc27 a4)], sw.gives (.nil _)⟩)
          | (have hfm : Ck.form body := ⟨Classical.not_not.1 hg31, Classical.not_not.1 hg35, Classical.not_not.1 hg40, Classical.not_not.1 hc27⟩
             exact fun w1 sw => ⟨by rw [Ck.chk, if_pos (Classical.not_not.1 hc17), if_pos hfm]; first | rw [if_neg hc45] | rw [if_pos (Classical.not_not.1 hc45)], sw.gives (.nil _)⟩)
        ·
          refine st (ev_move rfl) rfl rfl rfl ?_
          refine st_callv has43 rfl (fun w1 sw => cnum_any _ w1) rfl rfl ?_
          refine st (ev_not_if rfl) rfl rfl rfl ?_
          refine st (ev_pick_f rfl rfl) rfl rfl rfl ?_
          refine st (ev_assign rfl) rfl rfl rfl ?_
          refine op_nil ?_
          refine ax_then ?_
          refine At.regs (L' := [(2, _), (6, _), (7, _), (10, _), (11, _), (27, _)]) (.cons rfl (.cons rfl (.cons rfl (.cons rfl (.cons rfl (.cons rfl (.nil _))))))) ?_
          refine cd_if rfl (fun hc27 => ?_) (fun hc27 => ?_)
          ·
            refine cd_seq ?_
            refine cd_region ?_
            refine st (ev_assign rfl) rfl rfl rfl ?_
            refine st (ev_assign rfl) rfl rfl rfl ?_
            refine op_nil ?_
            refine ax_then ?_
            refine At.regs (L' := [(6, _), (7, _), (11, _)]) (.cons rfl (.cons rfl (.cons rfl (.nil _)))) ?_
            refine cd_ret ?_
            refine ax_block_ret ?_
            refine ax_then_ret ?_
            refine rt_tmp2 (.inl rfl) Try.results28 rfl rfl ?_
            first
            | (exact fun w1 sw => ⟨by rw [Ck.chk, if_neg hc17], sw.gives (.nil _)⟩)
            | (exact fun w1 sw => ⟨by rw [Ck.chk, if_pos (Classical.not_not.1 hc17), if_neg (fun ⟨a1, a2, a3, a4⟩ => by first | exact hg31 a1 | exact hg35 a2 | exact hg40 a3 | exact hc27 a4)], sw.gives (.nil _)⟩)
            | (have hfm : Ck.form body := ⟨Classical.not_not.1 hg31, Classical.not_not.1 hg35, Classical.not_not.1 hg40, Classical.not_not.1 hc27⟩
               exact fun w1 sw => ⟨by rw [Ck.chk, if_pos (Classical.not_not.1 hc17), if_pos hfm]; first | rw [if_neg hc45] | rw [if_pos (Classical.not_not.1 hc45)], sw.gives (.nil _)⟩)
          ·
            refine cd_seq ?_
            refine cd_region ?_
            refine st (ev_move rfl) rfl rfl rfl ?_
            refine st (ev_move rfl) rfl rfl rfl ?_
            refine st (ev_neq rfl rfl) rfl rfl rfl ?_
            refine st (ev_assign rfl) rfl rfl rfl ?_
            refine op_nil ?_
            refine ax_then ?_
            refine At.regs (L' := [(6, _), (7, _), (11, _), (45, _)]) (.cons rfl (.cons rfl (.cons rfl (.cons rfl (.nil _))))) ?_
            refine cd_if rfl (fun hc45 => ?_) (fun hc45 => ?_)
            ·
              refine cd_seq ?_
              refine cd_region ?_
              refine st (ev_assign rfl) rfl rfl rfl ?_
              refine st (ev_assign rfl) rfl rfl rfl ?_
              refine op_nil ?_
              refine ax_then ?_
              refine At.regs (L' := [(6, _), (7, _), (11, _)]) (.cons rfl (.cons rfl (.cons rfl (.nil _)))) ?_
              refine cd_ret ?_
              refine ax_block_ret ?_
              refine ax_then_ret ?_
              refine rt_tmp2 (.inl rfl) Try.results28 rfl rfl ?_
              first
              | (exact fun w1 sw => ⟨by rw [Ck.chk, if_neg hc17], sw.gives (.nil _)⟩)
              | (exact fun w1 sw => ⟨by rw [Ck.chk, if_pos (Classical.not_not.1 hc17), if_neg (fun ⟨a1, a2, a3, a4⟩ => by first | exact hg31 a1 | exact hg35 a2 | exact hg40 a3 | exact hc27 a4)], sw.gives (.nil _)⟩)
              | (have hfm : Ck.form body := ⟨Classical.not_not.1 hg31, Classical.not_not.1 hg35, Classical.not_not.1 hg40, Classical.not_not.1 hc27⟩
                 exact fun w1 sw => ⟨by rw [Ck.chk, if_pos (Classical.not_not.1 hc17), if_pos hfm]; first | rw [if_neg hc45] | rw [if_pos (Classical.not_not.1 hc45)], sw.gives (.nil _)⟩)
            ·
              refine cd_skip ?_
              refine ax_block ?_
              refine ax_then ?_
              refine At.regs (L' := [(6, _), (7, _), (11, _)]) (.cons rfl (.cons rfl (.cons rfl (.nil _)))) ?_
              refine cd_seq ?_
              refine cd_region ?_
              refine st (ev_move rfl) rfl rfl rfl ?_
              refine st (ev_assign rfl) rfl rfl rfl ?_
              refine st (ev_assign rfl) rfl rfl rfl ?_
              refine op_nil ?_
              refine ax_then ?_
              refine At.regs (L' := [(6, _), (7, _)]) (.cons rfl (.cons rfl (.nil _))) ?_
              refine cd_ret ?_
              refine rt_tmp2 (.inl rfl) Try.results28 rfl rfl ?_
              first
              | (exact fun w1 sw => ⟨by rw [Ck.chk, if_neg hc17], sw.gives (.nil _)⟩)
              | (exact fun w1 sw => ⟨by rw [Ck.chk, if_pos (Classical.not_not.1 hc17), if_neg (fun ⟨a1, a2, a3, a4⟩ => by first | exact hg31 a1 | exact hg35 a2 | exact hg40 a3 | exact hc27 a4)], sw.gives (.nil _)⟩)
              | (have hfm : Ck.form body := ⟨Classical.not_not.1 hg31, Classical.not_not.1 hg35, Classical.not_not.1 hg40, Classical.not_not.1 hc27⟩
                 exact fun w1 sw => ⟨by rw [Ck.chk, if_pos (Classical.not_not.1 hc17), if_pos hfm]; first | rw [if_neg hc45] | rw [if_pos (Classical.not_not.1 hc45)], sw.gives (.nil _)⟩)
set_option maxRecDepth 20000 in
set_option maxHeartbeats 8000000 in
theorem qcheck_any (p : List Int) (pb mv : Value) (body : List Int) (ms : List Qm.Mark) (nonce : Int) (w : World) (hp : p.length = 32) (hbody : Rd w pb 1 (ints .u8 body)) (hbl : body.length ≤ 140737488352000) (hbb : Byt body) (ha : Qm.AOk ms) (hml : ms.length ≤ 1000000) (hm : Rd w mv 35 (Qm.mflat ms)) (hmr : ∀ x, x ∈ ms → Qm.MRd w x) : Calls Try.prog 29 #[.agg (ints .u8 (p)).toArray, .agg (List.toArray [pb, mv]), .int .i64 nonce] w (PostV w (.tuple #[.int .i64 (Ck.chk p body ms nonce).1, .int .i64 (Ck.chk p body ms nonce).2])) := by
  have hsb := rd_shape hbody
  have hl1 := Ck.len1 body
  have hl2 := Ck.len2 body
  refine calls_at (vs := [.agg (ints .u8 (p)).toArray, .agg (List.toArray [pb, mv]), .int .i64 nonce]) (X := []) (H := []) (F := [(22, .sl (pb) 1 (ints .u8 (body))), (21, .sl (mv) 35 (Qm.mflat (ms)))]) 51 Try.func29 rfl rfl rfl (((Sat.rd0 21 hm).more 22 hbody)) ?_
  refine cd_seq ?_
  refine cd_region ?_
  refine st_box (h := 3) rfl rfl rfl rfl (fun b3 => ?_)
  refine st_box (h := 4) rfl rfl rfl rfl (fun b4 => ?_)
  refine st (ev_assign rfl) rfl rfl rfl ?_
  refine st (ev_assign rfl) rfl rfl rfl ?_
  refine op_nil ?_
  refine ax_then ?_
  refine At.regs (L' := [(2, _), (3, _), (4, _), (6, _), (7, _)]) (.cons rfl (.cons rfl (.cons rfl (.cons rfl (.cons rfl (.nil _)))))) ?_
  refine cd_seq ?_
  refine cd_seq ?_
  refine cd_region ?_
  refine st (ld_blk_all (h := 4) ty31 rfl rfl rfl (by first | omega | (simp only [List.length_append, List.length_cons, List.length_nil, List.length_set, List.length_replicate, List.length_take, List.length_drop, ints_length, wr_length, sha_len, node_len, recov_len, Ky.named_len, Ky.keyPub_len, Ky.hashOf_len] <;> omega) | rfl)) rfl rfl rfl ?_
  refine st (ld_blk_all (h := 3) ty55 rfl rfl rfl (by rw [ints_length]; exact hp)) rfl rfl rfl ?_
  refine st_bsh1 (h := 14) Try.underlying22 ty55 rfl (by first | assumption | omega) rfl rfl (fun b14 hu14 => ?_)
  refine st (ev_build_struct ty24 rfl pl24 rfl ((fill_put (i := 0) (off := 0) (n := 1) (vs := [.slice (some ⟨b14, 0, none⟩) 1 1]) rfl rfl rfl (Nat.le_of_ble_eq_true rfl)).trans ((fill_put (i := 1) (off := 1) (n := 1) (vs := [.int .i64 1]) rfl rfl rfl (Nat.le_of_ble_eq_true rfl)).trans fill_nil))) rfl rfl rfl ?_
  refine at_eq (i := 15) (v' := .agg (List.toArray [.slice (some ⟨b14, 0, none⟩) 1 1, .int .i64 1])) rfl rfl ?_
  refine st_callv has34 rfl (fun w1 sw => rmeets_any pb mv (.slice (some ⟨b14, 0, none⟩) 1 1) 1 body ms [p] w1 (sw.sl_rd (h := 22) rfl) hbl ha hml (sw.sl_rd (h := 21) rfl) (fun x hx => (Qm.Keeps.of sw).mrd (hmr x hx)) (fun h hh => by rw [List.mem_singleton.1 hh]; exact hp) (by simp) (sw.own_rd (h := 14) rfl)) rfl rfl ?_
  refine st (ev_not_if rfl) rfl rfl rfl ?_
  refine op_nil ?_
  refine ax_then ?_
  refine At.regs (L' := [(2, _), (4, _), (6, _), (7, _), (17, _)]) (.cons rfl (.cons rfl (.cons rfl (.cons rfl (.cons rfl (.nil _)))))) ?_
  refine cd_if rfl (fun hc17 => ?_) (fun hc17 => ?_)
  ·
    refine cd_seq ?_
    refine cd_region ?_
    refine st (ev_assign rfl) rfl rfl rfl ?_
    refine st (ev_assign rfl) rfl rfl rfl ?_
    refine op_nil ?_
    refine ax_then ?_
    refine At.regs (L' := [(2, _), (4, _), (6, _), (7, _)]) (.cons rfl (.cons rfl (.cons rfl (.cons rfl (.nil _))))) ?_
    refine cd_ret ?_
    refine ax_then_ret ?_
    refine rt_tmp2 (.inl rfl) Try.results29 rfl rfl ?_
    first
    | (exact fun w1 sw => ⟨by rw [Ck.chk, if_neg hc17], sw.gives (.nil _)⟩)
    | (exact fun w1 sw => ⟨by rw [Ck.chk, if_pos (Classical.not_not.1 hc17), if_neg (fun ⟨a1, a2, a3, a4⟩ => by first | exact hg32 a1 | exact hg36 a2 | exact hg41 a3 | exact hc28 a4)], sw.gives (.nil _)⟩)
    | (have hfm : Ck.form body := ⟨Classical.not_not.1 hg32, Classical.not_not.1 hg36, Classical.not_not.1 hg41, Classical.not_not.1 hc28⟩
       exact fun w1 sw => ⟨by rw [Ck.chk, if_pos (Classical.not_not.1 hc17), if_pos hfm]; first | rw [if_neg hc46] | rw [if_pos (Classical.not_not.1 hc46)], sw.gives (.nil _)⟩)
  ·
    refine cd_skip ?_
    refine ax_then ?_
    refine At.regs (L' := [(2, _), (4, _), (6, _), (7, _)]) (.cons rfl (.cons rfl (.cons rfl (.cons rfl (.nil _))))) ?_
    refine cd_seq ?_
    refine cd_region ?_
    refine st (ev_fieldAddr (b := _) Try.underlying31 (f := _) rfl ty28 (by decide) rfl) rfl rfl rfl ?_
    refine st (ld_blk1 (h := 4) ty28 rfl rfl rfl rfl) rfl rfl rfl ?_
    refine st (ev_build_struct ty112 rfl pl112 rfl ((fill_put (i := 0) (off := 0) (n := 1) (vs := [pb]) rfl hsb.1 rfl (Nat.le_of_ble_eq_true rfl)).trans fill_nil)) rfl rfl rfl ?_
    refine at_eq (i := 20) (v' := .agg (List.toArray [pb, .bool false])) rfl rfl ?_
    refine st_box (h := 21) rfl rfl rfl rfl (fun b21 => ?_)
    refine st (ev_assign rfl) rfl rfl rfl ?_
    refine op_nil ?_
    refine ax_then ?_
    refine At.regs (L' := [(2, _), (6, _), (7, _), (8, _)]) (.cons rfl (.cons rfl (.cons rfl (.cons rfl (.nil _))))) ?_
    refine cd_seq ?_
    refine cd_region ?_
    refine st (ev_move rfl) rfl rfl rfl ?_
    refine st_call has53 rfl (fun w1 sw => rn 21 (qrnum_g b21 pb (false) (body) w1 (sw.blk_eq (h := 21) rfl) (sw.sl_rd (h := 22) rfl) (sw.off 22 _ 21 _ rfl rfl _ (by simp [Ent.ids])) (by omega) (fun h => by cases h) (hbb))) (mod_blk rfl) rfl rfl (fun x23 hx23 => ?_)
    refine at_fmap (h := 22) 31 rfl (fun w1 hh => hx23.rd w1 hh) hx23.blk hx23.nil ?_
    refine st (ev_assign rfl) rfl rfl rfl ?_
    refine op_nil ?_
    refine ax_then ?_
    refine At.regs (L' := [(2, _), (6, _), (7, _), (8, _), (9, _)]) (.cons rfl (.cons rfl (.cons rfl (.cons rfl (.cons rfl (.nil _)))))) ?_
    refine cd_seq ?_
    refine cd_region ?_
    refine st (ev_move rfl) rfl rfl rfl ?_
    refine st_call has53 rfl (fun w1 sw => rn 21 (qrnum_g b21 x23 (false || Rr.nBad body) (Ck.r1 body) w1 (sw.blk_eq (h := 21) rfl) (sw.sl_rd (h := 31) rfl) (sw.off 31 _ 21 _ rfl rfl _ (by simp [Ent.ids])) (by omega) (fun h => Ck.no1 h) (hx23.byt hbb))) (mod_blk rfl) rfl rfl (fun x25 hx25 => ?_)
    refine at_fmap (h := 31) 32 rfl (fun w1 hh => hx25.rd w1 hh) hx25.blk hx25.nil ?_
    refine st (ev_assign rfl) rfl rfl rfl ?_
    refine op_nil ?_
    refine ax_then ?_
    refine At.regs (L' := [(2, _), (6, _), (7, _), (8, _), (9, _), (10, _)]) (.cons rfl (.cons rfl (.cons rfl (.cons rfl (.cons rfl (.cons rfl (.nil _))))))) ?_
    refine cd_seq ?_
    refine cd_region ?_
    refine st (ev_move rfl) rfl rfl rfl ?_
    refine st_call has53 rfl (fun w1 sw => rn 21 (qrnum_g b21 x25 (false || Rr.nBad body || Rr.nBad (Ck.r1 body)) (Ck.r2 body) w1 (sw.blk_eq (h := 21) rfl) (sw.sl_rd (h := 32) rfl) (sw.off 32 _ 21 _ rfl rfl _ (by simp [Ent.ids])) (by omega) (fun h => Ck.no2 h) (hx25.byt (hx23.byt hbb)))) (mod_blk rfl) rfl rfl (fun x27 hx27 => ?_)
    refine at_fmap (h := 32) 33 rfl (fun w1 hh => hx27.rd w1 hh) hx27.blk hx27.nil ?_
    refine st (ev_assign rfl) rfl rfl rfl ?_
    refine op_nil ?_
    refine ax_then ?_
    refine At.regs (L' := [(2, _), (6, _), (7, _), (8, _), (9, _), (10, _), (11, _)]) (.cons rfl (.cons rfl (.cons rfl (.cons rfl (.cons rfl (.cons rfl (.cons rfl (.nil _)))))))) ?_
    refine cd_seq ?_
    refine cd_block ?_
    refine cd_seq ?_
    refine cd_region ?_
    refine st (ev_move rfl) rfl rfl rfl ?_
    refine st_callv has54 rfl (fun w1 sw => qwhole_any b21 x27 (false || Rr.nBad body || Rr.nBad (Ck.r1 body) || Rr.nBad (Ck.r2 body)) (Ck.r3 body) w1 (lies_blk (sw.blk_eq (h := 21) rfl)) (sw.sl_rd (h := 33) rfl)) rfl rfl ?_
    refine at_eq (i := 30) (v' := .bool (decide (Ck.whole body))) rfl (by rw [Ck.whole_eq]) ?_
    refine st (ev_not_if rfl) rfl rfl rfl ?_
    refine st (ev_move rfl) rfl rfl rfl ?_
    refine at_split_if (i := 32) rfl (fun hg32 => ?_) (fun hg32 => ?_)
    ·
      refine st_skip rfl rfl rfl ?_
      refine st_skip rfl rfl rfl ?_
      refine st (ev_pick_t rfl rfl) rfl rfl rfl ?_
      refine st (ev_move rfl) rfl rfl rfl ?_
      refine st_skip rfl rfl rfl ?_
      refine st_skip rfl rfl rfl ?_
      refine st_skip rfl rfl rfl ?_
      refine st (ev_pick_t rfl rfl) rfl rfl rfl ?_
      refine st (ev_move rfl) rfl rfl rfl ?_
      refine st_skip rfl rfl rfl ?_
      refine st_skip rfl rfl rfl ?_
      refine st_skip rfl rfl rfl ?_
      refine st (ev_pick_t rfl rfl) rfl rfl rfl ?_
      refine st (ev_assign rfl) rfl rfl rfl ?_
      refine op_nil ?_
      refine ax_then ?_
      refine At.regs (L' := [(2, _), (6, _), (7, _), (10, _), (11, _), (28, _)]) (.cons rfl (.cons rfl (.cons rfl (.cons rfl (.cons rfl (.cons rfl (.nil _))))))) ?_
      refine cd_true rfl ?_
      refine cd_seq ?_
      refine cd_region ?_
      refine st (ev_assign rfl) rfl rfl rfl ?_
      refine st (ev_assign rfl) rfl rfl rfl ?_
      refine op_nil ?_
      refine ax_then ?_
      refine At.regs (L' := [(6, _), (7, _), (11, _)]) (.cons rfl (.cons rfl (.cons rfl (.nil _)))) ?_
      refine cd_ret ?_
      refine ax_block_ret ?_
      refine ax_then_ret ?_
      refine rt_tmp2 (.inl rfl) Try.results29 rfl rfl ?_
      first
      | (exact fun w1 sw => ⟨by rw [Ck.chk, if_neg hc17], sw.gives (.nil _)⟩)
      | (exact fun w1 sw => ⟨by rw [Ck.chk, if_pos (Classical.not_not.1 hc17), if_neg (fun ⟨a1, a2, a3, a4⟩ => by first | exact hg32 a1 | exact hg36 a2 | exact hg41 a3 | exact hc28 a4)], sw.gives (.nil _)⟩)
      | (have hfm : Ck.form body := ⟨Classical.not_not.1 hg32, Classical.not_not.1 hg36, Classical.not_not.1 hg41, Classical.not_not.1 hc28⟩
         exact fun w1 sw => ⟨by rw [Ck.chk, if_pos (Classical.not_not.1 hc17), if_pos hfm]; first | rw [if_neg hc46] | rw [if_pos (Classical.not_not.1 hc46)], sw.gives (.nil _)⟩)
    ·
      refine st (ev_move rfl) rfl rfl rfl ?_
      refine st (ev_neq rfl rfl) rfl rfl rfl ?_
      refine st (ev_pick_f rfl rfl) rfl rfl rfl ?_
      refine st (ev_move rfl) rfl rfl rfl ?_
      refine at_split_if (i := 36) rfl (fun hg36 => ?_) (fun hg36 => ?_)
      ·
        refine st_skip rfl rfl rfl ?_
        refine st_skip rfl rfl rfl ?_
        refine st_skip rfl rfl rfl ?_
        refine st (ev_pick_t rfl rfl) rfl rfl rfl ?_
        refine st (ev_move rfl) rfl rfl rfl ?_
        refine st_skip rfl rfl rfl ?_
        refine st_skip rfl rfl rfl ?_
        refine st_skip rfl rfl rfl ?_
        refine st (ev_pick_t rfl rfl) rfl rfl rfl ?_
        refine st (ev_assign rfl) rfl rfl rfl ?_
        refine op_nil ?_
        refine ax_then ?_
        refine At.regs (L' := [(2, _), (6, _), (7, _), (10, _), (11, _), (28, _)]) (.cons rfl (.cons rfl (.cons rfl (.cons rfl (.cons rfl (.cons rfl (.nil _))))))) ?_
        refine cd_true rfl ?_
        refine cd_seq ?_
        refine cd_region ?_
        refine st (ev_assign rfl) rfl rfl rfl ?_
        refine st (ev_assign rfl) rfl rfl rfl ?_
        refine op_nil ?_
        refine ax_then ?_
        refine At.regs (L' := [(6, _), (7, _), (11, _)]) (.cons rfl (.cons rfl (.cons rfl (.nil _)))) ?_
        refine cd_ret ?_
        refine ax_block_ret ?_
        refine ax_then_ret ?_
        refine rt_tmp2 (.inl rfl) Try.results29 rfl rfl ?_
        first
        | (exact fun w1 sw => ⟨by rw [Ck.chk, if_neg hc17], sw.gives (.nil _)⟩)
        | (exact fun w1 sw => ⟨by rw [Ck.chk, if_pos (Classical.not_not.1 hc17), if_neg (fun ⟨a1, a2, a3, a4⟩ => by first | exact hg32 a1 | exact hg36 a2 | exact hg41 a3 | exact hc28 a4)], sw.gives (.nil _)⟩)
        | (have hfm : Ck.form body := ⟨Classical.not_not.1 hg32, Classical.not_not.1 hg36, Classical.not_not.1 hg41, Classical.not_not.1 hc28⟩
           exact fun w1 sw => ⟨by rw [Ck.chk, if_pos (Classical.not_not.1 hc17), if_pos hfm]; first | rw [if_neg hc46] | rw [if_pos (Classical.not_not.1 hc46)], sw.gives (.nil _)⟩)
      ·
        refine st (ev_move rfl) rfl rfl rfl ?_
        refine st_callv has47 rfl (fun w1 sw => qcnum_any _ w1) rfl rfl ?_
        refine st (ev_not_if rfl) rfl rfl rfl ?_
        refine st (ev_pick_f rfl rfl) rfl rfl rfl ?_
        refine st (ev_move rfl) rfl rfl rfl ?_
        refine at_split_if (i := 41) rfl (fun hg41 => ?_) (fun hg41 => ?_)
        ·
          refine st_skip rfl rfl rfl ?_
          refine st_skip rfl rfl rfl ?_
          refine st_skip rfl rfl rfl ?_
          refine st (ev_pick_t rfl rfl) rfl rfl rfl ?_
          refine st (ev_assign rfl) rfl rfl rfl ?_
          refine op_nil ?_
          refine ax_then ?_
          refine At.regs (L' := [(2, _), (6, _), (7, _), (10, _), (11, _), (28, _)]) (.cons rfl (.cons rfl (.cons rfl (.cons rfl (.cons rfl (.cons rfl (.nil _))))))) ?_
          refine cd_true rfl ?_
          refine cd_seq ?_
          refine cd_region ?_
          refine st (ev_assign rfl) rfl rfl rfl ?_
          refine st (ev_assign rfl) rfl rfl rfl ?_
          refine op_nil ?_
          refine ax_then ?_
          refine At.regs (L' := [(6, _), (7, _), (11, _)]) (.cons rfl (.cons rfl (.cons rfl (.nil _)))) ?_
          refine cd_ret ?_
          refine ax_block_ret ?_
          refine ax_then_ret ?_
          refine rt_tmp2 (.inl rfl) Try.results29 rfl rfl ?_
          first
          | (exact fun w1 sw => ⟨by rw [Ck.chk, if_neg hc17], sw.gives (.nil _)⟩)
          | (exact fun w1 sw => ⟨by rw [Ck.chk, if_pos (Classical.not_not.1 hc17), if_neg (fun ⟨a1, a2, a3, a4⟩ => by first | exact hg32 a1 | exact hg36 a2 | exact hg41 a3 | exact hc28 a4)], sw.gives (.nil _)⟩)
          | (have hfm : Ck.form body := ⟨Classical.not_not.1 hg32, Classical.not_not.1 hg36, Classical.not_not.1 hg41, Classical.not_not.1 hc28⟩
             exact fun w1 sw => ⟨by rw [Ck.chk, if_pos (Classical.not_not.1 hc17), if_pos hfm]; first | rw [if_neg hc46] | rw [if_pos (Classical.not_not.1 hc46)], sw.gives (.nil _)⟩)
        ·
          refine st (ev_move rfl) rfl rfl rfl ?_
          refine st_callv has47 rfl (fun w1 sw => qcnum_any _ w1) rfl rfl ?_
          refine st (ev_not_if rfl) rfl rfl rfl ?_
          refine st (ev_pick_f rfl rfl) rfl rfl rfl ?_
          refine st (ev_assign rfl) rfl rfl rfl ?_
          refine op_nil ?_
          refine ax_then ?_
          refine At.regs (L' := [(2, _), (6, _), (7, _), (10, _), (11, _), (28, _)]) (.cons rfl (.cons rfl (.cons rfl (.cons rfl (.cons rfl (.cons rfl (.nil _))))))) ?_
          refine cd_if rfl (fun hc28 => ?_) (fun hc28 => ?_)
          ·
            refine cd_seq ?_
            refine cd_region ?_
            refine st (ev_assign rfl) rfl rfl rfl ?_
            refine st (ev_assign rfl) rfl rfl rfl ?_
            refine op_nil ?_
            refine ax_then ?_
            refine At.regs (L' := [(6, _), (7, _), (11, _)]) (.cons rfl (.cons rfl (.cons rfl (.nil _)))) ?_
            refine cd_ret ?_
            refine ax_block_ret ?_
            refine ax_then_ret ?_
            refine rt_tmp2 (.inl rfl) Try.results29 rfl rfl ?_
            first
            | (exact fun w1 sw => ⟨by rw [Ck.chk, if_neg hc17], sw.gives (.nil _)⟩)
            | (exact fun w1 sw => ⟨by rw [Ck.chk, if_pos (Classical.not_not.1 hc17), if_neg (fun ⟨a1, a2, a3, a4⟩ => by first | exact hg32 a1 | exact hg36 a2 | exact hg41 a3 | exact hc28 a4)], sw.gives (.nil _)⟩)
            | (have hfm : Ck.form body := ⟨Classical.not_not.1 hg32, Classical.not_not.1 hg36, Classical.not_not.1 hg41, Classical.not_not.1 hc28⟩
               exact fun w1 sw => ⟨by rw [Ck.chk, if_pos (Classical.not_not.1 hc17), if_pos hfm]; first | rw [if_neg hc46] | rw [if_pos (Classical.not_not.1 hc46)], sw.gives (.nil _)⟩)
          ·
            refine cd_seq ?_
            refine cd_region ?_
            refine st (ev_move rfl) rfl rfl rfl ?_
            refine st (ev_move rfl) rfl rfl rfl ?_
            refine st (ev_neq rfl rfl) rfl rfl rfl ?_
            refine st (ev_assign rfl) rfl rfl rfl ?_
            refine op_nil ?_
            refine ax_then ?_
            refine At.regs (L' := [(6, _), (7, _), (11, _), (46, _)]) (.cons rfl (.cons rfl (.cons rfl (.cons rfl (.nil _))))) ?_
            refine cd_if rfl (fun hc46 => ?_) (fun hc46 => ?_)
            ·
              refine cd_seq ?_
              refine cd_region ?_
              refine st (ev_assign rfl) rfl rfl rfl ?_
              refine st (ev_assign rfl) rfl rfl rfl ?_
              refine op_nil ?_
              refine ax_then ?_
              refine At.regs (L' := [(6, _), (7, _), (11, _)]) (.cons rfl (.cons rfl (.cons rfl (.nil _)))) ?_
              refine cd_ret ?_
              refine ax_block_ret ?_
              refine ax_then_ret ?_
              refine rt_tmp2 (.inl rfl) Try.results29 rfl rfl ?_
              first
              | (exact fun w1 sw => ⟨by rw [Ck.chk, if_neg hc17], sw.gives (.nil _)⟩)
              | (exact fun w1 sw => ⟨by rw [Ck.chk, if_pos (Classical.not_not.1 hc17), if_neg (fun ⟨a1, a2, a3, a4⟩ => by first | exact hg32 a1 | exact hg36 a2 | exact hg41 a3 | exact hc28 a4)], sw.gives (.nil _)⟩)
              | (have hfm : Ck.form body := ⟨Classical.not_not.1 hg32, Classical.not_not.1 hg36, Classical.not_not.1 hg41, Classical.not_not.1 hc28⟩
                 exact fun w1 sw => ⟨by rw [Ck.chk, if_pos (Classical.not_not.1 hc17), if_pos hfm]; first | rw [if_neg hc46] | rw [if_pos (Classical.not_not.1 hc46)], sw.gives (.nil _)⟩)
            ·
              refine cd_skip ?_
              refine ax_block ?_
              refine ax_then ?_
              refine At.regs (L' := [(6, _), (7, _), (11, _)]) (.cons rfl (.cons rfl (.cons rfl (.nil _)))) ?_
              refine cd_seq ?_
              refine cd_region ?_
              refine st (ev_move rfl) rfl rfl rfl ?_
              refine st (ev_assign rfl) rfl rfl rfl ?_
              refine st (ev_assign rfl) rfl rfl rfl ?_
              refine op_nil ?_
              refine ax_then ?_
              refine At.regs (L' := [(6, _), (7, _)]) (.cons rfl (.cons rfl (.nil _))) ?_
              refine cd_ret ?_
              refine rt_tmp2 (.inl rfl) Try.results29 rfl rfl ?_
              first
              | (exact fun w1 sw => ⟨by rw [Ck.chk, if_neg hc17], sw.gives (.nil _)⟩)
              | (exact fun w1 sw => ⟨by rw [Ck.chk, if_pos (Classical.not_not.1 hc17), if_neg (fun ⟨a1, a2, a3, a4⟩ => by first | exact hg32 a1 | exact hg36 a2 | exact hg41 a3 | exact hc28 a4)], sw.gives (.nil _)⟩)
              | (have hfm : Ck.form body := ⟨Classical.not_not.1 hg32, Classical.not_not.1 hg36, Classical.not_not.1 hg41, Classical.not_not.1 hc28⟩
                 exact fun w1 sw => ⟨by rw [Ck.chk, if_pos (Classical.not_not.1 hc17), if_pos hfm]; first | rw [if_neg hc46] | rw [if_pos (Classical.not_not.1 hc46)], sw.gives (.nil _)⟩)
set_option maxRecDepth 20000 in
set_option maxHeartbeats 2000000 in
theorem cnew_any (s : List Int) (w : World) (hl : s.length = 32) : Calls Try.prog 22 #[.agg (ints .u8 (s)).toArray] w (Post (ι := Nat × Nat × Value) w [] (fun _ => True) (fun x => .pointer (some ⟨x.1, 0, none⟩)) (fun x => [(0, .blk (x.1) (.cells ([.pointer (some ⟨x.2.1, 0, none⟩)]).toArray 98)), (1, .blk (x.2.1) (.cells (Ky.cells s x.2.2 ((0 : Nat) : Int)).toArray 133)), (2, .own (x.2.2) 55 32 (flat (Ky.leaves s 16)))])) := by
  refine calls_at (vs := [.agg (ints .u8 (s)).toArray]) (X := []) (H := []) (F := []) 7 Try.func22 rfl rfl rfl (Sat.start0 w) ?_
  refine cd_seq ?_
  refine cd_region ?_
  refine st_box (h := 1) rfl rfl rfl rfl (fun b1 => ?_)
  refine st (ev_assign rfl) rfl rfl rfl ?_
  refine op_nil ?_
  refine ax_then ?_
  refine At.regs (L' := [(1, _), (2, _)]) (.cons rfl (.cons rfl (.nil _))) ?_
  refine cd_seq ?_
  refine cd_region ?_
  refine st (ld_blk_all (h := 1) ty55 rfl rfl rfl (by first | omega | (simp only [List.length_append, List.length_cons, List.length_nil, List.length_set, List.length_replicate, List.length_take, List.length_drop, ints_length, wr_length, sha_len, node_len, recov_len, Ky.named_len, Ky.keyPub_len, Ky.hashOf_len] <;> omega) | rfl)) rfl rfl rfl ?_
  refine st_call has41 rfl (fun w1 sw => rn2 4 104 (new_any s 0 w1 hl)) nil_all rfl rfl (fun x4 _ => ?_)
  obtain ⟨b4, lv4⟩ := x4
  dsimp only
  refine at_heq (i := 4) (v' := .blk (b4) (.cells (Ky.cells s lv4 ((0 : Nat) : Int)).toArray 133)) rfl rfl ?_
  refine st (ev_build_struct ty98 rfl pl98 rfl ((fill_put (i := 0) (off := 0) (n := 1) (vs := [.pointer (some ⟨b4, 0, none⟩)]) rfl rfl rfl (Nat.le_of_ble_eq_true rfl)).trans fill_nil)) rfl rfl rfl ?_
  refine at_eq (i := 5) (v' := .agg (List.toArray [.pointer (some ⟨b4, 0, none⟩)])) rfl rfl ?_
  refine st_box (h := 6) rfl rfl rfl rfl (fun b6 => ?_)
  refine st (ev_assign rfl) rfl rfl rfl ?_
  refine op_nil ?_
  refine ax_then ?_
  refine At.regs (L' := [(2, _)]) (.cons rfl (.nil _)) ?_
  refine cd_ret ?_
  refine rt_tmp (.inl rfl) Try.results22 rfl ?_
  exact fun w1 sw => ⟨(b6, b4, lv4), trivial, rfl, (sw.gives (N := [(6, _), (4, _), (104, _)]) (.cons rfl (.cons rfl (.cons rfl (.nil _))))).rn3 (by decide) (by decide) (by decide) 0 1 2⟩
set_option maxRecDepth 20000 in
set_option maxHeartbeats 2000000 in
theorem qcnew_any (s : List Int) (w : World) (hl : s.length = 32) : Calls Try.prog 23 #[.agg (ints .u8 (s)).toArray] w (Post (ι := Nat × Nat × Value) w [] (fun _ => True) (fun x => .pointer (some ⟨x.1, 0, none⟩)) (fun x => [(0, .blk (x.1) (.cells ([.pointer (some ⟨x.2.1, 0, none⟩)]).toArray 65)), (1, .blk (x.2.1) (.cells (Ky.rcells s x.2.2 (Ky.keyPub s) ((0 : Nat) : Int)).toArray 62)), (2, .own (x.2.2) 55 32 (flat (Ky.leaves s 16)))])) := by
  refine calls_at (vs := [.agg (ints .u8 (s)).toArray]) (X := []) (H := []) (F := []) 7 Try.func23 rfl rfl rfl (Sat.start0 w) ?_
  refine cd_seq ?_
  refine cd_region ?_
  refine st_box (h := 1) rfl rfl rfl rfl (fun b1 => ?_)
  refine st (ev_assign rfl) rfl rfl rfl ?_
  refine op_nil ?_
  refine ax_then ?_
  refine At.regs (L' := [(1, _), (2, _)]) (.cons rfl (.cons rfl (.nil _))) ?_
  refine cd_seq ?_
  refine cd_region ?_
  refine st (ld_blk_all (h := 1) ty55 rfl rfl rfl (by first | omega | (simp only [List.length_append, List.length_cons, List.length_nil, List.length_set, List.length_replicate, List.length_take, List.length_drop, ints_length, wr_length, sha_len, node_len, recov_len, Ky.named_len, Ky.keyPub_len, Ky.hashOf_len] <;> omega) | rfl)) rfl rfl rfl ?_
  refine st_call has37 rfl (fun w1 sw => rn2 4 104 (rnew_any s 0 w1 hl)) nil_all rfl rfl (fun x4 _ => ?_)
  obtain ⟨b4, lv4⟩ := x4
  dsimp only
  refine at_heq (i := 4) (v' := .blk (b4) (.cells (Ky.rcells s lv4 (Ky.keyPub s) ((0 : Nat) : Int)).toArray 62)) rfl rfl ?_
  refine st (ev_build_struct ty65 rfl pl65 rfl ((fill_put (i := 0) (off := 0) (n := 1) (vs := [.pointer (some ⟨b4, 0, none⟩)]) rfl rfl rfl (Nat.le_of_ble_eq_true rfl)).trans fill_nil)) rfl rfl rfl ?_
  refine at_eq (i := 5) (v' := .agg (List.toArray [.pointer (some ⟨b4, 0, none⟩)])) rfl rfl ?_
  refine st_box (h := 6) rfl rfl rfl rfl (fun b6 => ?_)
  refine st (ev_assign rfl) rfl rfl rfl ?_
  refine op_nil ?_
  refine ax_then ?_
  refine At.regs (L' := [(2, _)]) (.cons rfl (.nil _)) ?_
  refine cd_ret ?_
  refine rt_tmp (.inl rfl) Try.results23 rfl ?_
  exact fun w1 sw => ⟨(b6, b4, lv4), trivial, rfl, (sw.gives (N := [(6, _), (4, _), (104, _)]) (.cons rfl (.cons rfl (.cons rfl (.nil _))))).rn3 (by decide) (by decide) (by decide) 0 1 2⟩
set_option maxRecDepth 20000 in
set_option maxHeartbeats 2000000 in
theorem cpub_any (cb kb : Nat) (lv : Value) (s : List Int) (n : Nat) (w : World) (hl : s.length = 32) (hc : Lies w cb 0 [.pointer (some ⟨kb, 0, none⟩)]) (hk : Lies w kb 0 (Ky.cells s lv (n : Int))) (h : Rd w lv 32 (flat (Ky.leaves s 16))) : Calls Try.prog 24 #[.pointer (some ⟨cb, 0, none⟩)] w (PostV w (.agg (ints .u8 (Ky.keyPub s)).toArray)) := by
  refine calls_at (vs := [.pointer (some ⟨cb, 0, none⟩)]) (X := []) (H := []) (F := [(24, .mem cb 0 [.pointer (some ⟨kb, 0, none⟩)]), (23, .mem kb 0 (Ky.cells s lv (n : Int))), (20, .sl (lv) 32 (flat (Ky.leaves s 16)))]) 11 Try.func24 rfl rfl rfl (((Sat.rd0 20 h).read (f := .mem kb 0 (Ky.cells s lv (n : Int))) 23 hk off_nil).read (f := .mem cb 0 [.pointer (some ⟨kb, 0, none⟩)]) 24 hc off_nil) ?_
  refine cd_seq ?_
  refine cd_region ?_
  refine st_alloc (h := 2) ty55 rfl rfl rfl (fun b2 => ?_)
  refine op_nil ?_
  refine ax_then ?_
  refine At.regs (L' := [(0, _), (2, _)]) (.cons rfl (.cons rfl (.nil _))) ?_
  refine cd_seq ?_
  refine cd_seq ?_
  refine cd_region ?_
  refine st (ev_move rfl) rfl rfl rfl ?_
  refine st (ev_eql_ptr_nil Try.underlying56 rfl rfl) rfl rfl rfl ?_
  refine op_nil ?_
  refine ax_then ?_
  refine At.regs (L' := [(0, _), (2, _), (4, _)]) (.cons rfl (.cons rfl (.cons rfl (.nil _)))) ?_
  refine cd_false rfl ?_
  refine cd_skip ?_
  refine ax_then ?_
  refine At.regs (L' := [(0, _), (2, _)]) (.cons rfl (.cons rfl (.nil _))) ?_
  refine cd_seq ?_
  refine cd_region ?_
  refine st (ev_move rfl) rfl rfl rfl ?_
  refine st (ev_nilCheck rfl) rfl rfl rfl ?_
  refine st (ev_fieldAddr (b := _) Try.underlying98 (f := _) rfl ty95 (by decide) rfl) rfl rfl rfl ?_
  refine st (ld_mem1 (h := 24) ty95 rfl rfl rfl (Nat.zero_add _).symm rfl) rfl rfl rfl ?_
  refine st_callv has42 rfl (fun w1 sw => pubkey_any kb lv s n w1 hl (sw.mem_lies (h := 23) rfl) (sw.sl_rd (h := 20) rfl)) rfl rfl ?_
  refine st_store_all 2 ty55 rfl rfl rfl rfl (by first | omega | (simp only [List.length_append, List.length_cons, List.length_nil, List.length_set, List.length_replicate, List.length_take, List.length_drop, ints_length, wr_length, sha_len, node_len, recov_len, Ky.named_len, Ky.keyPub_len, Ky.hashOf_len] <;> omega) | rfl) (ints_one _ _) (by first | omega | (simp only [List.length_append, List.length_cons, List.length_nil, List.length_set, List.length_replicate, List.length_take, List.length_drop, ints_length, wr_length, sha_len, node_len, recov_len, Ky.named_len, Ky.keyPub_len, Ky.hashOf_len] <;> omega) | rfl) rfl ?_
  refine op_nil ?_
  refine ax_then ?_
  refine At.regs (L' := [(2, _)]) (.cons rfl (.nil _)) ?_
  refine cd_ret ?_
  refine rt_cell (h0 := 2) (.inl rfl) Try.results24 ty55 rfl rfl rfl (by first | omega | (simp only [List.length_append, List.length_cons, List.length_nil, List.length_set, List.length_replicate, List.length_take, List.length_drop, ints_length, wr_length, sha_len, node_len, recov_len, Ky.named_len, Ky.keyPub_len, Ky.hashOf_len] <;> omega) | rfl) ?_
  exact fun w1 sw => ⟨rfl, sw.gives (.nil _)⟩
set_option maxRecDepth 20000 in
set_option maxHeartbeats 1000000 in
theorem cpub_nil (w : World) : Calls Try.prog 24 #[.pointer none] w (PostV w (.agg (ints .u8 (List.replicate 32 0)).toArray)) := by
  refine calls_at (vs := [.pointer none]) (X := []) (H := []) (F := []) 11 Try.func24 rfl rfl rfl (Sat.start0 w) ?_
  refine cd_seq ?_
  refine cd_region ?_
  refine st_alloc (h := 2) ty55 rfl rfl rfl (fun b2 => ?_)
  refine op_nil ?_
  refine ax_then ?_
  refine At.regs (L' := [(0, _), (2, _)]) (.cons rfl (.cons rfl (.nil _))) ?_
  refine cd_seq ?_
  refine cd_seq ?_
  refine cd_region ?_
  refine st (ev_move rfl) rfl rfl rfl ?_
  refine st (ev_eql_ptr_nil Try.underlying56 rfl rfl) rfl rfl rfl ?_
  refine op_nil ?_
  refine ax_then ?_
  refine At.regs (L' := [(0, _), (2, _), (4, _)]) (.cons rfl (.cons rfl (.cons rfl (.nil _)))) ?_
  refine cd_true rfl ?_
  refine cd_seq ?_
  refine cd_region ?_
  refine st (ev_build_array ty55 rfl ty5 rfl rfl) rfl rfl rfl ?_
  refine st_store_all 2 ty55 rfl rfl rfl rfl (by first | omega | (simp only [List.length_append, List.length_cons, List.length_nil, List.length_set, List.length_replicate, List.length_take, List.length_drop, ints_length, wr_length, sha_len, node_len, recov_len, Ky.named_len, Ky.keyPub_len, Ky.hashOf_len] <;> omega) | rfl) (ints_one _ _) (by first | omega | (simp only [List.length_append, List.length_cons, List.length_nil, List.length_set, List.length_replicate, List.length_take, List.length_drop, ints_length, wr_length, sha_len, node_len, recov_len, Ky.named_len, Ky.keyPub_len, Ky.hashOf_len] <;> omega) | rfl) rfl ?_
  refine op_nil ?_
  refine ax_then ?_
  refine At.regs (L' := [(0, _), (2, _)]) (.cons rfl (.cons rfl (.nil _))) ?_
  refine cd_ret ?_
  refine ax_then_ret ?_
  refine rt_cell (h0 := 2) (.inl rfl) Try.results24 ty55 rfl rfl rfl (by first | omega | (simp only [List.length_append, List.length_cons, List.length_nil, List.length_set, List.length_replicate, List.length_take, List.length_drop, ints_length, wr_length, sha_len, node_len, recov_len, Ky.named_len, Ky.keyPub_len, Ky.hashOf_len] <;> omega) | rfl) ?_
  exact fun w1 sw => ⟨rfl, sw.gives (.nil _)⟩
end Go.Proofs.Ytgfnmolbagilmaa

namespace Go.Proofs.Ytgfnmolbagilmaa.Qm
open Go Fw Sha Ots Mk Go.Proofs.Ytgfnmolbagilmaa
set_option linter.unusedSimpArgs false
set_option linter.unusedVariables false
def sd (i : Nat) : List Int := (i : Int) :: List.replicate 31 0
abbrev Sp := List Int × Int × List (List Int) × List (List Int)
def strip (m : Mark) : Sp := (m.key, m.leaf, m.cs, m.ps)
def exp1 (body : List Int) (i n : Nat) : Sp := (Ky.keyPub (sd i), (n : Int), sign (sd i) n body 36, path (Ky.leaves (sd i) 16) n)
def bit (which : Int) (i : Nat) : Prop := iand .i64 (ishr .i64 which (i : Int)) 1 = 1
instance (which : Int) (i : Nat) : Decidable (bit which i) := by unfold bit; infer_instance
def step (body : List Int) (which : Int) (tw : Bool) (i : Nat) : List Sp := if bit which i then [exp1 body i 0] ++ (if tw = true ∧ i = 0 then [exp1 body i 1] else []) else []
def covers (R : List (Value × Nat × List Value)) (ms : List Mark) : Prop := ∀ m, m ∈ ms → (m.vc, 32, flat m.cs) ∈ R ∧ (m.vp, 32, flat m.ps) ∈ R
def FR (w : World) (R : List (Value × Nat × List Value)) : Prop := ∀ y, y ∈ R → ∀ b, b ∈ blkOf y.1 → w.heap.size ≤ b
theorem covers.snoc {R : List (Value × Nat × List Value)} {ms : List Mark} (h : covers R ms) (m : Mark) : covers ((m.vp, 32, flat m.ps) :: (m.vc, 32, flat m.cs) :: R) (ms ++ [m]) := fun x hx => by
  rcases List.mem_append.1 hx with hx | hx
  · exact ⟨List.mem_cons_of_mem _ (List.mem_cons_of_mem _ (h x hx).1), List.mem_cons_of_mem _ (List.mem_cons_of_mem _ (h x hx).2)⟩
  · obtain rfl := List.mem_singleton.1 hx
    exact ⟨List.mem_cons_of_mem _ (List.mem_cons_self ..), List.mem_cons_self ..⟩
theorem FR.cons {w : World} {R : List (Value × Nat × List Value)} (h : FR w R) {v : Value} {sz : Nat} {l : List Value} (hv : ∀ b, b ∈ blkOf v → w.heap.size ≤ b ∨ b ∈ ([] : List Nat)) : FR w ((v, sz, l) :: R) := fun y hy => by
  rcases List.mem_cons.1 hy with rfl | hy
  · exact fun b hb => (hv b hb).resolve_right (by simp)
  · exact h y hy
theorem mark_new {k : List Int} (hk : k.length = 32) (a b c : Value) : wr (wr (ints .u8 (List.replicate 32 0) ++ [.int .i64 0, .slice none 0 0, .slice none 0 0]) 0 (ints .u8 k)) 32 [a, b, c] = ints .u8 k ++ [a, b, c] := by
  have h1 : wr (ints .u8 (List.replicate 32 0) ++ [Value.int .i64 0, .slice none 0 0, .slice none 0 0]) 0 (ints .u8 k) = ints .u8 k ++ [.int .i64 0, .slice none 0 0, .slice none 0 0] := by
    rw [wr, List.take_zero, List.nil_append, ints_length, hk, Nat.zero_add, List.drop_left' (by simp [ints_length])]
  rw [h1, wr, List.take_left' (by rw [ints_length, hk]), List.drop_eq_nil_of_le (by simp [ints_length, hk]), List.append_nil]
end Go.Proofs.Ytgfnmolbagilmaa.Qm
