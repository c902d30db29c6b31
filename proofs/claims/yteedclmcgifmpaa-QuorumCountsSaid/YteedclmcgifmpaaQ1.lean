/- Walks: chapter 7. -/
import Derived.Test.YteedclmcgifmpaaQm
import Derived.Test.YteedclmcgifmpaaK1
import Derived.Test.YteedclmcgifmpaaD9
namespace Go.Proofs.Yteedclmcgifmpaa
open Go Go.RowKit Fw
open Sha
open Ots
open Mk
set_option linter.unusedVariables false
set_option linter.unusedSimpArgs false

set_option maxRecDepth 20000 in
set_option maxHeartbeats 2000000 in
theorem whoC_any (x : Qm.Mark) (b8 b2 : Nat) (h body : List Int) (pb mv : Value) (w : World) (hl : h.length = 32) (h8 : Lies w b8 0 (ints .u8 h)) (h2 : Lies w b2 0 [pb, mv]) (hbody : Rd w pb 1 (ints .u8 body)) (hbl : body.length ≤ 1000000000) (hx : Qm.MOk x) (hr : Qm.MRd w x) : Calls Try.prog 43 #[(.agg (Qm.mcells x).toArray), .pointer (some ⟨b8, 0, none⟩), .pointer (some ⟨b2, 0, none⟩)] w (PostV w (.bool (decide (Qm.hits h body x)))) := by
  have hml := Qm.mcells_len hx
  have hkl := hx.1
  refine calls_at (vs := [(.agg (Qm.mcells x).toArray), .pointer (some ⟨b8, 0, none⟩), .pointer (some ⟨b2, 0, none⟩)]) (X := []) (H := []) (F := [(24, .mem b2 0 [pb, mv]), (23, .mem b8 0 (ints .u8 h)), (22, .sl (pb) 1 (ints .u8 (body))), (21, .sl (x.vp) 32 (flat (x.ps))), (20, .sl (x.vc) 32 (flat (x.cs)))]) 17 Try.func43 rfl rfl rfl (((((Sat.rd0 20 hr.1).more 21 hr.2).more 22 hbody).read (f := .mem b8 0 (ints .u8 h)) 23 h8 off_nil).read (f := .mem b2 0 [pb, mv]) 24 h2 off_nil) ?_
  refine cd_seq ?_
  refine cd_region ?_
  refine st_box (h := 3) rfl rfl rfl rfl (fun b3 => ?_)
  refine st (ev_assign rfl) rfl rfl rfl ?_
  refine op_nil ?_
  refine ax_then ?_
  refine At.regs (L' := [(1, _), (2, _), (3, _), (4, _)]) (.cons rfl (.cons rfl (.cons rfl (.cons rfl (.nil _))))) ?_
  refine cd_seq ?_
  refine cd_region ?_
  refine st (ev_fieldAddr (b := _) Try.underlying44 (f := _) rfl ty39 (by decide) rfl) rfl rfl rfl ?_
  refine st (ld_blk (h := 3) ty39 rfl rfl rfl (by rw [hml]; show 0 + 32 ≤ 35; decide)) rfl rfl rfl ?_
  refine at_eq (i := 6) (v' := .agg (ints .u8 (x.key)).toArray) rfl (congrArg (fun x => Value.agg (List.toArray x)) (Qm.mkey hx)) ?_
  refine st (ld_mem_all (h := 23) ty39 rfl rfl rfl (by first | omega | (simp only [List.length_append, List.length_cons, List.length_nil, List.length_set, List.length_replicate, List.length_take, List.length_drop, ints_length, wr_length, sha_len, node_len, recov_len, Ky.named_len, Ky.keyPub_len] <;> omega) | rfl)) rfl rfl rfl ?_
  refine st (ev_eql_arr Try.underlying39 ty5 eqg39 rfl rfl (by first | omega | (simp only [List.length_append, List.length_cons, List.length_nil, List.length_set, List.length_replicate, List.length_take, List.length_drop, ints_length, wr_length, sha_len, node_len, recov_len, Ky.named_len, Ky.keyPub_len] <;> omega) | rfl) (by first | omega | (simp only [List.length_append, List.length_cons, List.length_nil, List.length_set, List.length_replicate, List.length_take, List.length_drop, ints_length, wr_length, sha_len, node_len, recov_len, Ky.named_len, Ky.keyPub_len] <;> omega) | rfl)) rfl rfl rfl ?_
  refine st (ev_move rfl) rfl rfl rfl ?_
  refine at_split_if (i := 9) rfl (fun hg9 => ?_) (fun hg9 => ?_)
  ·
    refine st (ld_mem_all (h := 23) ty39 rfl rfl rfl (by first | omega | (simp only [List.length_append, List.length_cons, List.length_nil, List.length_set, List.length_replicate, List.length_take, List.length_drop, ints_length, wr_length, sha_len, node_len, recov_len, Ky.named_len, Ky.keyPub_len] <;> omega) | rfl)) rfl rfl rfl ?_
    refine st (ev_fieldAddr (b := _) Try.underlying25 (f := _) rfl ty22 (by decide) rfl) rfl rfl rfl ?_
    refine st (ld_mem1 (h := 24) ty22 rfl rfl rfl (Nat.zero_add _).symm rfl) rfl rfl rfl ?_
    refine st (ev_fieldAddr (b := _) Try.underlying44 (f := _) rfl ty42 (by decide) rfl) rfl rfl rfl ?_
    refine st (ld_blk (h := 3) ty42 rfl rfl rfl (by rw [hml]; show 32 + 3 ≤ 35; decide)) rfl rfl rfl ?_
    refine at_eq (i := 14) (v' := .agg (List.toArray [.int .i64 x.leaf, x.vc, x.vp])) rfl (congrArg (fun x => Value.agg (List.toArray x)) (Qm.msig hx)) ?_
    refine st_callv has35 rfl (fun w1 sw => verify_any h pb body x.leaf x.vc x.vp x.cs x.ps w1 hl hbl hx.2.1 hx.2.2.1 hx.2.2.2.1 hx.2.2.2.2 (sw.sl_rd (h := 22) rfl) (sw.sl_rd (h := 20) rfl) (sw.sl_rd (h := 21) rfl)) rfl rfl ?_
    refine st (ev_pick_t rfl rfl) rfl rfl rfl ?_
    refine st (ev_assign rfl) rfl rfl rfl ?_
    refine op_nil ?_
    refine ax_then ?_
    refine At.regs (L' := [(4, _)]) (.cons rfl (.nil _)) ?_
    refine cd_ret ?_
    refine rt_tmp (.inl rfl) Try.results43 rfl ?_
    exact fun w1 sw => ⟨congrArg (fun b => Ending.returned (Value.bool b)) (by first | exact (decide_eq_false (fun hh => hg9 hh.1)).symm | exact decide_eq_decide.2 ⟨fun hh => ⟨hg9, hh⟩, fun hh => hh.2⟩), sw.gives (.nil _)⟩
  ·
    refine st_skip rfl rfl rfl ?_
    refine st_skip rfl rfl rfl ?_
    refine st_skip rfl rfl rfl ?_
    refine st_skip rfl rfl rfl ?_
    refine st_skip rfl rfl rfl ?_
    refine st_skip rfl rfl rfl ?_
    refine st (ev_pick_f rfl rfl) rfl rfl rfl ?_
    refine st (ev_assign rfl) rfl rfl rfl ?_
    refine op_nil ?_
    refine ax_then ?_
    refine At.regs (L' := [(4, _)]) (.cons rfl (.nil _)) ?_
    refine cd_ret ?_
    refine rt_tmp (.inl rfl) Try.results43 rfl ?_
    exact fun w1 sw => ⟨congrArg (fun b => Ending.returned (Value.bool b)) (by first | exact (decide_eq_false (fun hh => hg9 hh.1)).symm | exact decide_eq_decide.2 ⟨fun hh => ⟨hg9, hh⟩, fun hh => hh.2⟩), sw.gives (.nil _)⟩

set_option maxRecDepth 20000 in
set_option maxHeartbeats 2000000 in
theorem indexF_any (v : Value) (ms : List Qm.Mark) (w : World) (k : Nat) (hk : Has Try.prog k) (vf vc : List Value) (p : Qm.Mark → Bool) (hc : ∀ (w1 : World) (x : Qm.Mark), Qm.Keeps w w1 → x ∈ ms → Calls Try.prog k (vf ++ [Value.agg (Qm.mcells x).toArray] ++ vc).toArray w1 (PostV w1 (.bool (p x)))) (ha : Qm.AOk ms) (hl : ms.length ≤ 1000000) (h : Rd w v 35 (Qm.mflat ms)) : Calls Try.prog 74 #[v, .func (.func k) vf.toArray vc.toArray] w (PostV w (.int .i64 (Qm.firstP p ms))) := by
  refine calls_at (vs := [v, .func (.func k) vf.toArray vc.toArray]) (X := []) (H := []) (F := [(0, .sl (v) 35 (Qm.mflat (ms)))]) 19 Try.func74 rfl rfl rfl (Sat.rd0 0 h) ?_
  refine cd_seq ?_
  refine cd_region ?_
  refine st (ev_assign rfl) rfl rfl rfl ?_
  refine op_nil ?_
  refine ax_then ?_
  refine At.regs (L' := [(0, _), (1, _), (4, _)]) (.cons rfl (.cons rfl (.cons rfl (.nil _)))) ?_
  refine cd_seq ?_
  refine cd_seq ?_
  refine cd_region ?_
  refine st (ev_move rfl) rfl rfl rfl ?_
  refine st (ev_len_rd (h := 0) (n := ms.length) Try.underlying23 rfl rfl (Qm.mflat_len ha) (by decide)) rfl rfl rfl ?_
  refine st (ev_move rfl) rfl rfl rfl ?_
  refine op_nil ?_
  refine ax_then ?_
  refine At.regs (L' := [(0, _), (1, _), (4, _), (7, _), (8, _)]) (.cons rfl (.cons rfl (.cons rfl (.cons rfl (.cons rfl (.nil _)))))) ?_
  refine cd_block ?_
  refine cd_loop (ι := Nat) (fun i => i ≤ ms.length ∧ ∀ j, (hj : j < i) → (hm : j < ms.length) → p ms[j] = false) (fun i => ms.length - i)
      (fun i => [(0, v), (1, .func (.func k) vf.toArray vc.toArray), (7, .int .i64 (ms.length : Nat)), (8, .int .i64 (i : Int))])
      (fun i => [])
      (fun i => [(0, .sl (v) 35 (Qm.mflat (ms)))])
      0 (⟨by omega, fun j hj => by omega⟩) (.cons rfl (.cons rfl (.cons rfl (.cons rfl (.nil _))))) (.nil _) (.cons rfl (.nil _)) (fun i hi => ?_)
  have hi1 := hi.1
  have hfl := Qm.mflat_len ha
  refine cd_seq ?_
  refine cd_region ?_
  refine st (ev_lss rfl rfl) rfl rfl rfl ?_
  refine op_nil ?_
  refine ax_then ?_
  refine At.regs (L' := [(0, _), (1, _), (7, _), (8, _), (9, _)]) (.cons rfl (.cons rfl (.cons rfl (.cons rfl (.cons rfl (.nil _)))))) ?_
  refine cd_seq ?_
  refine cd_if rfl (fun hc9 => ?_) (fun hc9 => ?_)
  ·
    have hlt : i < ms.length := by omega
    refine cd_skip ?_
    refine ax_then ?_
    refine At.regs (L' := [(0, _), (1, _), (7, _), (8, _), (9, _)]) (.cons rfl (.cons rfl (.cons rfl (.cons rfl (.cons rfl (.nil _)))))) ?_
    refine cd_seq ?_
    refine cd_block ?_
    refine cd_seq ?_
    refine cd_region ?_
    refine st (ev_move rfl) rfl rfl rfl ?_
    refine st (ev_assign rfl) rfl rfl rfl ?_
    refine op_nil ?_
    refine ax_then ?_
    refine At.regs (L' := [(0, _), (1, _), (5, _), (7, _), (8, _), (9, _), (10, _)]) (.cons rfl (.cons rfl (.cons rfl (.cons rfl (.cons rfl (.cons rfl (.cons rfl (.nil _)))))))) ?_
    refine cd_seq ?_
    refine cd_region ?_
    refine st (ev_move rfl) rfl rfl rfl ?_
    refine st (ev_move rfl) rfl rfl rfl ?_
    refine st (ev_move rfl) rfl rfl rfl ?_
    refine st (ev_indexAddr_rd (h := 0) (n := ms.length) Try.underlying23 ty44 rfl rfl rfl (Qm.mflat_len ha) (by decide) (by omega) (by omega)) rfl rfl rfl ?_
    refine st (ld_rd (h := 0) ty44 rfl rfl rfl (by decide) (by rw [hfl, Int.toNat_natCast]; omega)) rfl rfl rfl ?_
    refine at_eq (i := 15) (v' := .agg (Qm.mcells ms[i]).toArray) rfl (congrArg (fun x => Value.agg (List.toArray x)) (by rw [Int.toNat_natCast]; exact Qm.mflat_get ha hlt)) ?_
    refine st_callv_fn hk rfl rfl rfl (fun w1 sw => hc w1 ms[i] (Qm.Keeps.of sw) (List.getElem_mem hlt)) rfl rfl ?_
    refine op_nil ?_
    refine ax_then ?_
    refine At.regs (L' := [(0, _), (1, _), (5, _), (7, _), (8, _), (9, _), (10, _), (11, _), (12, _), (13, _), (14, _), (15, _), (16, _)]) (.cons rfl (.cons rfl (.cons rfl (.cons rfl (.cons rfl (.cons rfl (.cons rfl (.cons rfl (.cons rfl (.cons rfl (.cons rfl (.cons rfl (.cons rfl (.nil _)))))))))))))) ?_
    refine cd_cond rfl (fun hc16 => ?_) (fun hc16 => ?_)
    ·
      refine cd_seq ?_
      refine cd_region ?_
      refine st (ev_move rfl) rfl rfl rfl ?_
      refine st (ev_assign rfl) rfl rfl rfl ?_
      refine op_nil ?_
      refine ax_then ?_
      refine At.regs (L' := [(0, _), (1, _), (4, _), (5, _), (7, _), (8, _), (9, _), (10, _), (11, _), (12, _), (13, _), (14, _), (15, _), (16, _), (17, _)]) (.cons rfl (.cons rfl (.cons rfl (.cons rfl (.cons rfl (.cons rfl (.cons rfl (.cons rfl (.cons rfl (.cons rfl (.cons rfl (.cons rfl (.cons rfl (.cons rfl (.cons rfl (.nil _)))))))))))))))) ?_
      refine cd_ret ?_
      refine ax_block_ret ?_
      refine ax_then_ret ?_
      refine ax_then_ret ?_
      refine ax_block_ret ?_
      refine ax_then_ret ?_
      refine rt_tmp (.inl rfl) Try.results74 rfl ?_
      exact fun w1 sw => ⟨by rw [Qm.firstP_hit hlt (fun j hj => hi.2 j hj (by omega)) hc16], sw.gives (.nil _)⟩
    ·
      refine cd_skip ?_
      refine ax_block ?_
      refine ax_then ?_
      refine At.regs (L' := [(0, _), (1, _), (5, _), (7, _), (8, _), (9, _), (10, _), (11, _), (12, _), (13, _), (14, _), (15, _), (16, _)]) (.cons rfl (.cons rfl (.cons rfl (.cons rfl (.cons rfl (.cons rfl (.cons rfl (.cons rfl (.cons rfl (.cons rfl (.cons rfl (.cons rfl (.cons rfl (.nil _)))))))))))))) ?_
      refine cd_region ?_
      refine st (ev_add64 rfl rfl (by omega) (by omega)) rfl rfl rfl ?_
      refine st (ev_move rfl) rfl rfl rfl ?_
      refine op_nil ?_
      exact at_again (i + 1) (⟨by omega, fun j hj hm => (Nat.lt_succ_iff_lt_or_eq.1 hj).elim (fun h => hi.2 j h hm) (fun e => by subst e; exact hc16)⟩) (by omega) (.cons rfl (.cons rfl (.cons rfl (.cons rfl (.nil _))))) (.nil _) (.cons rfl (.nil _))
  ·
    obtain rfl : i = ms.length := by omega
    refine cd_exit ?_
    refine ax_then_exit ?_
    refine ax_then_exit ?_
    refine ax_block_hit ?_
    refine ax_then ?_
    refine At.regs (L' := []) (.nil _) ?_
    refine cd_seq ?_
    refine cd_region ?_
    refine st (ev_assign rfl) rfl rfl rfl ?_
    refine op_nil ?_
    refine ax_then ?_
    refine At.regs (L' := [(4, _)]) (.cons rfl (.nil _)) ?_
    refine cd_ret ?_
    refine rt_tmp (.inl rfl) Try.results74 rfl ?_
    exact fun w1 sw => ⟨by rw [Qm.firstP_miss (fun j hj => hi.2 j hj hj)], sw.gives (.nil _)⟩

set_option maxRecDepth 20000 in
set_option maxHeartbeats 1000000 in
theorem containsF_any (v : Value) (ms : List Qm.Mark) (w : World) (k : Nat) (hk : Has Try.prog k) (vf vc : List Value) (p : Qm.Mark → Bool) (hc : ∀ (w1 : World) (x : Qm.Mark), Qm.Keeps w w1 → x ∈ ms → Calls Try.prog k (vf ++ [Value.agg (Qm.mcells x).toArray] ++ vc).toArray w1 (PostV w1 (.bool (p x)))) (ha : Qm.AOk ms) (hl : ms.length ≤ 1000000) (h : Rd w v 35 (Qm.mflat ms)) : Calls Try.prog 45 #[v, .func (.func k) vf.toArray vc.toArray] w (PostV w (.bool (ms.any p))) := by
  refine calls_at (vs := [v, .func (.func k) vf.toArray vc.toArray]) (X := []) (H := []) (F := [(0, .sl (v) 35 (Qm.mflat (ms)))]) 9 Try.func45 rfl rfl rfl (Sat.rd0 0 h) ?_
  refine cd_seq ?_
  refine cd_region ?_
  refine st (ev_assign rfl) rfl rfl rfl ?_
  refine op_nil ?_
  refine ax_then ?_
  refine At.regs (L' := [(0, _), (1, _), (4, _)]) (.cons rfl (.cons rfl (.cons rfl (.nil _)))) ?_
  refine cd_seq ?_
  refine cd_region ?_
  refine st (ev_move rfl) rfl rfl rfl ?_
  refine st (ev_move rfl) rfl rfl rfl ?_
  refine st_callv has74 rfl (fun w1 sw => indexF_any v ms w1 k hk vf vc p (fun w2 x hk2 hx => hc w2 x (fun b hb => (hk2 b (Nat.lt_of_lt_of_le hb sw.size)).trans (sw.old b hb (by simp))) hx) ha hl (sw.sl_rd (h := 0) rfl)) rfl rfl ?_
  refine st (ev_geq rfl rfl) rfl rfl rfl ?_
  refine st (ev_assign rfl) rfl rfl rfl ?_
  refine op_nil ?_
  refine ax_then ?_
  refine At.regs (L' := [(4, _)]) (.cons rfl (.nil _)) ?_
  refine cd_ret ?_
  refine rt_tmp (.inl rfl) Try.results45 rfl ?_
  exact fun w1 sw => ⟨congrArg (fun b => Ending.returned (Value.bool b)) (Qm.firstP_ge p ms), sw.gives (.nil _)⟩

theorem rd_cutm {w : World} {v : Value} {ms : List Qm.Mark} (ha : Qm.AOk ms) (h : Rd w v 35 (Qm.mflat ms)) {n : Nat} (hn : n ≤ ms.length) : Rd w (cutAt 35 v 0 n) 35 (Qm.mflat (ms.take n)) := by
  have := rd_cut (n := ms.length) (lo := 0) (hi := n) h (by decide) (Qm.mflat_len ha) (Nat.zero_le _) hn
  rw [Nat.zero_mul, List.drop_zero, Nat.sub_zero, Qm.mflat_take n ha] at this
  exact this
theorem idx_mem {hs : List (List Int)} {h : List Int} : (0 ≤ idx hs h) ↔ h ∈ hs := by
  constructor
  · intro h0
    apply Classical.byContradiction
    intro hn
    exact (idx_neg.2 fun j hj e => hn (by rw [e, List.getD_eq_getElem?_getD, List.getElem?_eq_getElem hj]; exact List.getElem_mem hj)) h0
  · intro hm
    apply Classical.byContradiction
    intro hn
    obtain ⟨j, hj, e⟩ := List.getElem_of_mem hm
    exact idx_neg.1 hn j hj (by rw [List.getD_eq_getElem?_getD, List.getElem?_eq_getElem hj]; exact e.symm)
theorem any4 (body : List Int) (ms : List Qm.Mark) (h : List Int) : (ms.take 4).any (fun x => decide (Qm.hits h body x)) = decide (Qm.some4 body ms h) := by
  rw [Bool.eq_iff_iff, List.any_eq_true, decide_eq_true_eq]
  exact ⟨fun ⟨x, hx, hh⟩ => ⟨x, hx, of_decide_eq_true hh⟩, fun ⟨x, hx, hh⟩ => ⟨x, hx, decide_eq_true hh⟩⟩
theorem take_min (ms : List Qm.Mark) : ms.take (min ms.length 4) = ms.take 4 := by
  rcases Nat.le_total ms.length 4 with h | h
  · rw [Nat.min_eq_left h, List.take_length, List.take_of_length_le h]
  · rw [Nat.min_eq_right h]

set_option maxRecDepth 20000 in
set_option maxHeartbeats 4000000 in
theorem who_any (pb mv kv : Value) (need : Int) (body : List Int) (ms : List Qm.Mark) (ks : List (List Int)) (w : World) (hbody : Rd w pb 1 (ints .u8 body)) (hbl : body.length ≤ 1000000000) (ha : Qm.AOk ms) (hml : ms.length ≤ 1000000) (hm : Rd w mv 35 (Qm.mflat ms)) (hmr : ∀ x, x ∈ ms → Qm.MRd w x) (hu : H32 ks) (hkl : ks.length ≤ 1000000) (hk : Rd w kv 32 (flat ks)) : Calls Try.prog 17 #[.agg (List.toArray [pb, mv]), .agg (List.toArray [kv, .int .i64 need])] w (Post (ι := Value) w [] (fun _ => True) (fun v => v) (fun v => [(0, .own (v) 39 32 (flat (Qm.who body ms ks)))])) := by
  refine calls_at (vs := [.agg (List.toArray [pb, mv]), .agg (List.toArray [kv, .int .i64 need])]) (X := []) (H := []) (F := [(22, .sl (pb) 1 (ints .u8 (body))), (21, .sl (mv) 35 (Qm.mflat (ms))), (20, .sl (kv) 32 (flat (ks)))]) 40 Try.func17 rfl rfl rfl (((Sat.rd0 20 hk).more 21 hm).more 22 hbody) ?_
  refine cd_seq ?_
  refine cd_region ?_
  refine st_box (h := 2) rfl rfl rfl rfl (fun b2 => ?_)
  refine st_box (h := 3) rfl rfl rfl rfl (fun b3 => ?_)
  refine st (ev_assign rfl) rfl rfl rfl ?_
  refine at_own_nil 4 39 32 ?_
  refine at_heq (i := 4) (v' := .own (.slice none 0 0) 39 32 (flat [])) rfl rfl ?_
  have hu4 := H32.nil
  refine op_nil ?_
  refine ax_then ?_
  refine At.regs (L' := [(2, _), (3, _), (4, _)]) (.cons rfl (.cons rfl (.cons rfl (.nil _)))) ?_
  refine cd_seq ?_
  refine cd_region ?_
  refine st (ev_fieldAddr (b := _) Try.underlying25 (f := _) rfl ty23 (by decide) rfl) rfl rfl rfl ?_
  refine st (ld_blk1 (h := 2) ty23 rfl rfl rfl rfl) rfl rfl rfl ?_
  refine st (ev_fieldAddr (b := _) Try.underlying25 (f := _) rfl ty23 (by decide) rfl) rfl rfl rfl ?_
  refine st (ld_blk1 (h := 2) ty23 rfl rfl rfl rfl) rfl rfl rfl ?_
  refine st (ev_len_rd (h := 21) (n := ms.length) Try.underlying23 rfl rfl (Qm.mflat_len ha) (by decide)) rfl rfl rfl ?_
  refine st (ev_min2 rfl rfl) rfl rfl rfl ?_
  refine st (ev_slice_rd_hi (n := ms.length) Try.underlying23 ty44 rfl rfl (fun w1 sw => sw.sl_rd (h := 21) rfl) (by decide) (Qm.mflat_len ha) (by omega) (by omega)) rfl rfl rfl ?_
  refine at_eq (i := 16) (v' := cutAt 35 mv 0 (min ms.length 4)) rfl (by congr 1; omega) ?_
  refine st (ev_assign rfl) rfl rfl rfl ?_
  refine op_nil ?_
  refine ax_then ?_
  refine At.regs (L' := [(2, _), (3, _), (4, _), (5, _)]) (.cons rfl (.cons rfl (.cons rfl (.cons rfl (.nil _))))) ?_
  refine cd_seq ?_
  refine cd_region ?_
  refine st (ev_assign rfl) rfl rfl rfl ?_
  refine at_own_nil 6 39 32 ?_
  refine at_heq (i := 6) (v' := .own (.slice none 0 0) 39 32 (flat [])) rfl rfl ?_
  have hu6 := H32.nil
  refine op_nil ?_
  refine ax_then ?_
  refine At.regs (L' := [(2, _), (3, _), (4, _), (5, _), (6, _)]) (.cons rfl (.cons rfl (.cons rfl (.cons rfl (.cons rfl (.nil _)))))) ?_
  refine cd_seq ?_
  refine cd_seq ?_
  refine cd_region ?_
  refine st (ev_fieldAddr (b := _) Try.underlying28 (f := _) rfl ty26 (by decide) rfl) rfl rfl rfl ?_
  refine st (ld_blk1 (h := 3) ty26 rfl rfl rfl rfl) rfl rfl rfl ?_
  refine st (ev_len_rdh (h := 20) Try.underlying26 rfl rfl (by assumption)) rfl rfl rfl ?_
  refine st (ev_move rfl) rfl rfl rfl ?_
  refine op_nil ?_
  refine ax_then ?_
  refine At.regs (L' := [(2, _), (4, _), (5, _), (6, _), (18, _), (19, _), (20, _)]) (.cons rfl (.cons rfl (.cons rfl (.cons rfl (.cons rfl (.cons rfl (.cons rfl (.nil _)))))))) ?_
  refine cd_block ?_
  refine cd_loop (ι := Nat × Value) (fun x => x.1 ≤ ks.length) (fun x => ks.length - x.1)
      (fun x => [(2, .pointer (some ⟨b2, 0, none⟩)), (5, cutAt 35 mv 0 (min ms.length 4)), (6, x.2), (18, kv), (19, .int .i64 (ks.length : Nat)), (20, .int .i64 (x.1 : Int))])
      (fun x => [(2, .blk (b2) (.cells ([pb, mv]).toArray 25)), (3, .blk (b3) (.cells ([kv, .int .i64 need]).toArray 28)), (6, .own (x.2) 39 32 (flat (Qm.who body ms (ks.take (x.1)))))])
      (fun x => [(20, .sl (kv) 32 (flat (ks))), (21, .sl (mv) 35 (Qm.mflat (ms))), (22, .sl (pb) 1 (ints .u8 (body)))])
      (0, .slice none 0 0) (by omega) (.cons rfl (.cons rfl (.cons rfl (.cons rfl (.cons rfl (.cons rfl (.nil _))))))) (.cons rfl (.cons rfl (.cons rfl (.nil _)))) (.cons rfl (.cons rfl (.cons rfl (.nil _)))) (fun x hi => ?_)
  have e0 : (x.1 : Int).toNat = x.1 := by omega
  have hwu := Qm.who_h32 body ms (hu.take x.1)
  have hwl := hwu.2
  have hw32 := hwu.1
  have htl : (ks.take x.1).length ≤ ks.length := by rw [List.length_take]; omega
  have hgx : x.1 < ks.length → (ks.getD x.1 []).length = 32 := fun hh => hu.get hh
  have hgx2 : x.1 < ks.length → (ks.getD (x.1 : Int).toNat []).length = 32 := fun hh => by rw [e0]; exact hu.get hh
  have hst : x.1 < ks.length → ks.take (x.1 + 1) = ks.take x.1 ++ [ks.getD x.1 []] := fun hh => by rw [List.take_succ_eq_append_getElem hh, List.getD_eq_getElem?_getD, List.getElem?_eq_getElem hh]; rfl
  refine cd_seq ?_
  refine cd_region ?_
  refine st (ev_lss rfl rfl) rfl rfl rfl ?_
  refine op_nil ?_
  refine ax_then ?_
  refine At.regs (L' := [(2, _), (5, _), (6, _), (18, _), (19, _), (20, _), (21, _)]) (.cons rfl (.cons rfl (.cons rfl (.cons rfl (.cons rfl (.cons rfl (.cons rfl (.nil _)))))))) ?_
  refine cd_seq ?_
  refine cd_if rfl (fun hc21 => ?_) (fun hc21 => ?_)
  ·
    have hg := hgx (by omega)
    have hg2 := hgx2 (by omega)
    refine cd_skip ?_
    refine ax_then ?_
    refine At.regs (L' := [(2, _), (5, _), (6, _), (18, _), (19, _), (20, _), (21, _)]) (.cons rfl (.cons rfl (.cons rfl (.cons rfl (.cons rfl (.cons rfl (.cons rfl (.nil _)))))))) ?_
    refine cd_join (ι := Value) (fun y => True) (fun y => [(2, .pointer (some ⟨b2, 0, none⟩)), (5, cutAt 35 mv 0 (min ms.length 4)), (6, y), (18, kv), (19, .int .i64 (ks.length : Nat)), (20, .int .i64 (x.1 : Int))]) (fun y => [(2, .blk (b2) (.cells ([pb, mv]).toArray 25)), (3, .blk (b3) (.cells ([kv, .int .i64 need]).toArray 28)), (6, .own (y) 39 32 (flat (Qm.who body ms (ks.take (x.1 + 1)))))]) (fun y => [(20, .sl (kv) 32 (flat (ks))), (21, .sl (mv) 35 (Qm.mflat (ms))), (22, .sl (pb) 1 (ints .u8 (body)))]) ?_ (fun y hj => ?_)
    ·
      refine cd_block ?_
      refine cd_seq ?_
      refine cd_region ?_
      refine st (ev_indexAddr_rdh (h := 20) Try.underlying26 ty39 rfl rfl rfl (by assumption) (by omega) (by omega)) rfl rfl rfl ?_
      refine st (ld_rdh (h := 20) ty39 rfl rfl rfl (by assumption) (by omega)) rfl rfl rfl ?_
      refine at_eq (i := 23) (v' := .agg (ints .u8 (ks.getD x.1 [])).toArray) rfl (by rw [e0]) ?_
      refine st_alloc (h := 8) ty39 rfl rfl rfl (fun b8 => ?_)
      refine st_store_all 8 ty39 rfl rfl rfl rfl (by first | omega | (simp only [List.length_append, List.length_cons, List.length_nil, List.length_set, List.length_replicate, List.length_take, List.length_drop, ints_length, wr_length, sha_len, node_len, recov_len, Ky.named_len, Ky.keyPub_len] <;> omega) | rfl) (ints_one _ _) (by first | omega | (simp only [List.length_append, List.length_cons, List.length_nil, List.length_set, List.length_replicate, List.length_take, List.length_drop, ints_length, wr_length, sha_len, node_len, recov_len, Ky.named_len, Ky.keyPub_len] <;> omega) | rfl) rfl ?_
      refine op_nil ?_
      refine ax_then ?_
      refine At.regs (L' := [(2, _), (5, _), (6, _), (8, _), (18, _), (19, _), (20, _), (21, _), (22, _), (23, _)]) (.cons rfl (.cons rfl (.cons rfl (.cons rfl (.cons rfl (.cons rfl (.cons rfl (.cons rfl (.cons rfl (.cons rfl (.nil _))))))))))) ?_
      refine cd_seq ?_
      refine cd_region ?_
      refine st (ev_func rfl rfl) rfl rfl rfl ?_
      refine st (ev_assign rfl) rfl rfl rfl ?_
      refine op_nil ?_
      refine ax_then ?_
      refine At.regs (L' := [(2, _), (5, _), (6, _), (8, _), (9, _), (18, _), (19, _), (20, _), (21, _), (22, _), (23, _), (24, _)]) (.cons rfl (.cons rfl (.cons rfl (.cons rfl (.cons rfl (.cons rfl (.cons rfl (.cons rfl (.cons rfl (.cons rfl (.cons rfl (.cons rfl (.nil _))))))))))))) ?_
      refine cd_seq ?_
      refine cd_region ?_
      refine st (ev_move rfl) rfl rfl rfl ?_
      refine st (ld_blk_all (h := 8) ty39 rfl rfl rfl (by first | omega | (simp only [List.length_append, List.length_cons, List.length_nil, List.length_set, List.length_replicate, List.length_take, List.length_drop, ints_length, wr_length, sha_len, node_len, recov_len, Ky.named_len, Ky.keyPub_len] <;> omega) | rfl)) rfl rfl rfl ?_
      refine st_callv has44 rfl (fun w1 sw => contains_any x.2 (Qm.who body ms (ks.take (x.1))) (ks.getD x.1 []) w1 hw32 hg (by omega) (sw.own_rd (h := 6) rfl)) rfl rfl ?_
      refine at_eq (i := 27) (v' := .bool (decide (ks.getD x.1 [] ∈ Qm.who body ms (ks.take (x.1))))) rfl (congrArg Value.bool (decide_eq_decide.2 idx_mem)) ?_
      refine st (ev_not_if rfl) rfl rfl rfl ?_
      refine st (ev_move rfl) rfl rfl rfl ?_
      refine at_split_if (i := 29) rfl (fun hg29 => ?_) (fun hg29 => ?_)
      ·
        refine st (ev_move rfl) rfl rfl rfl ?_
        refine st (ev_move rfl) rfl rfl rfl ?_
        refine st_callv has45 rfl (fun w1 sw => containsF_any (cutAt 35 mv 0 (min ms.length 4)) (ms.take (min ms.length 4)) w1 43 has43 [] [.pointer (some ⟨b8, 0, none⟩), .pointer (some ⟨b2, 0, none⟩)] (fun y => decide (Qm.hits (ks.getD x.1 []) body y)) (fun w2 y hk2 hy => whoC_any y b8 b2 (ks.getD x.1 []) body pb mv w2 hg (hk2.lies (lies_blk (sw.blk_eq (h := 8) rfl))) (hk2.lies (lies_blk (sw.blk_eq (h := 2) rfl))) (hk2.rd (sw.sl_rd (h := 22) rfl)) hbl (ha y (List.mem_of_mem_take hy)) (hk2.mrd ((Qm.Keeps.of sw).mrd (hmr y (List.mem_of_mem_take hy))))) (ha.take _) (by rw [List.length_take]; omega) (rd_cutm ha (sw.sl_rd (h := 21) rfl) (by omega))) rfl rfl ?_
        refine at_eq (i := 32) (v' := .bool (decide (Qm.some4 body ms (ks.getD x.1 [])))) rfl (by rw [take_min, any4]) ?_
        refine st (ev_pick_t rfl rfl) rfl rfl rfl ?_
        refine op_nil ?_
        refine ax_then ?_
        refine At.regs (L' := [(2, _), (5, _), (6, _), (8, _), (9, _), (18, _), (19, _), (20, _), (21, _), (22, _), (23, _), (24, _), (25, _), (26, _), (27, _), (28, _), (29, _), (30, _), (31, _), (32, _), (33, _)]) (.cons rfl (.cons rfl (.cons rfl (.cons rfl (.cons rfl (.cons rfl (.cons rfl (.cons rfl (.cons rfl (.cons rfl (.cons rfl (.cons rfl (.cons rfl (.cons rfl (.cons rfl (.cons rfl (.cons rfl (.cons rfl (.cons rfl (.cons rfl (.cons rfl (.nil _)))))))))))))))))))))) ?_
        refine cd_if rfl (fun hc33 => ?_) (fun hc33 => ?_)
        ·
          refine cd_region ?_
          refine st (ev_move rfl) rfl rfl rfl ?_
          refine st (ld_blk_all (h := 8) ty39 rfl rfl rfl (by first | omega | (simp only [List.length_append, List.length_cons, List.length_nil, List.length_set, List.length_replicate, List.length_take, List.length_drop, ints_length, wr_length, sha_len, node_len, recov_len, Ky.named_len, Ky.keyPub_len] <;> omega) | rfl)) rfl rfl rfl ?_
          refine st_bsh1 (h := 36) Try.underlying26 ty39 rfl (by first | assumption | omega) rfl rfl (fun b36 hu36 => ?_)
          refine st_appendh (h := 6) Try.underlying26 Try.underlying26 ty39 rfl rfl rfl rfl (fun w1 sw => sw.own_rd (h := 36) rfl) (by assumption) (by assumption) (by first | omega | (simp only [List.length_append, List.length_cons, List.length_nil, List.length_set, List.length_replicate, List.length_take, List.length_drop, ints_length, wr_length, sha_len, node_len, recov_len, Ky.named_len, Ky.keyPub_len] <;> omega)) (by decide) rfl rfl (fun v37 hu37 => ?_)
          refine st (ev_assign rfl) rfl rfl rfl ?_
          refine op_nil ?_
          refine ax_block ?_
          refine ax_heq (i := 6) (v' := .own (v37) 39 32 (flat (Qm.who body ms (ks.take (x.1 + 1))))) rfl (by rw [hst (by omega), Qm.who_snoc, if_pos ⟨hg29, hc33⟩]) ?_
          exact at_met (v37) (trivial) (.cons rfl (.cons rfl (.cons rfl (.cons rfl (.cons rfl (.cons rfl (.nil _))))))) (.cons rfl (.cons rfl (.cons rfl (.nil _)))) (.cons rfl (.cons rfl (.cons rfl (.nil _))))
        ·
          refine cd_skip ?_
          refine ax_block ?_
          refine ax_heq (i := 6) (v' := .own (x.2) 39 32 (flat (Qm.who body ms (ks.take (x.1 + 1))))) rfl (by rw [hst (by omega), Qm.who_snoc, if_neg (fun hh => hc33 hh.2)]) ?_
          exact at_met (x.2) (trivial) (.cons rfl (.cons rfl (.cons rfl (.cons rfl (.cons rfl (.cons rfl (.nil _))))))) (.cons rfl (.cons rfl (.cons rfl (.nil _)))) (.cons rfl (.cons rfl (.cons rfl (.nil _))))
      ·
        refine st_skip rfl rfl rfl ?_
        refine st_skip rfl rfl rfl ?_
        refine st_skip rfl rfl rfl ?_
        refine st (ev_pick_f rfl rfl) rfl rfl rfl ?_
        refine op_nil ?_
        refine ax_then ?_
        refine At.regs (L' := [(2, _), (5, _), (6, _), (8, _), (9, _), (18, _), (19, _), (20, _), (21, _), (22, _), (23, _), (24, _), (25, _), (26, _), (27, _), (28, _), (29, _), (30, _), (31, _), (32, _), (33, _)]) (.cons rfl (.cons rfl (.cons rfl (.cons rfl (.cons rfl (.cons rfl (.cons rfl (.cons rfl (.cons rfl (.cons rfl (.cons rfl (.cons rfl (.cons rfl (.cons rfl (.cons rfl (.cons rfl (.cons rfl (.cons rfl (.cons rfl (.cons rfl (.cons rfl (.nil _)))))))))))))))))))))) ?_
        refine cd_false rfl ?_
        refine cd_skip ?_
        refine ax_block ?_
        refine ax_heq (i := 6) (v' := .own (x.2) 39 32 (flat (Qm.who body ms (ks.take (x.1 + 1))))) rfl (by rw [hst (by omega), Qm.who_snoc, if_neg (fun hh => hg29 hh.1)]) ?_
        exact at_met (x.2) (trivial) (.cons rfl (.cons rfl (.cons rfl (.cons rfl (.cons rfl (.cons rfl (.nil _))))))) (.cons rfl (.cons rfl (.cons rfl (.nil _)))) (.cons rfl (.cons rfl (.cons rfl (.nil _))))
    ·
      refine cd_region ?_
      refine st (ev_add64 rfl rfl (by omega) (by omega)) rfl rfl rfl ?_
      refine st (ev_move rfl) rfl rfl rfl ?_
      refine op_nil ?_
      exact at_again ((x.1 + 1, y)) (by show x.1 + 1 ≤ ks.length; omega) (by omega) (.cons rfl (.cons rfl (.cons rfl (.cons rfl (.cons rfl (.cons rfl (.nil _))))))) (.cons rfl (.cons rfl (.cons rfl (.nil _)))) (.cons rfl (.cons rfl (.cons rfl (.nil _))))
  ·
    obtain ⟨j, u⟩ := x
    dsimp only at hi hc21 ⊢
    obtain rfl : j = ks.length := by omega
    refine at_heq (i := 6) (v' := .own (u) 39 32 (flat (Qm.who body ms ks))) rfl (by rw [List.take_length]) ?_
    refine cd_exit ?_
    refine ax_then_exit ?_
    refine ax_then_exit ?_
    refine ax_block_hit ?_
    refine ax_then ?_
    refine At.regs (L' := [(6, _)]) (.cons rfl (.nil _)) ?_
    refine cd_seq ?_
    refine cd_region ?_
    refine st (ev_move rfl) rfl rfl rfl ?_
    refine st (ev_assign rfl) rfl rfl rfl ?_
    refine op_nil ?_
    refine ax_then ?_
    refine At.regs (L' := [(4, _)]) (.cons rfl (.nil _)) ?_
    refine cd_ret ?_
    refine rt_tmp (.inl rfl) Try.results17 rfl ?_
    exact fun w1 sw => ⟨u, trivial, rfl, (sw.gives (N := [(6, _)]) (.cons rfl (.nil _))).rn 0⟩

end Go.Proofs.Yteedclmcgifmpaa
