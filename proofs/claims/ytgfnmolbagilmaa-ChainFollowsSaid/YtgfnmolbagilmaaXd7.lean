/- The statement's proof, part 7: what its walks and its plain laws need. -/
import Derived.Test.YtgfnmolbagilmaaRows
import Derived.Tactics
import Derived.Deep.Quiet
import Derived.StillTail
import Derived.Laws.World
import Derived.Laws.Sem
import Derived.Laws.Entries
import Derived.Below
import Derived.Deep.LoopGhost
import Derived.Laws.BytesString
import Derived.Laws.IdiomStrings
import Derived.KernelRfl
import Derived.Carry
import Derived.OpenShut
import Derived.ProofKit
import Derived.ChangeSame
import Derived.HandedShaped
import Derived.SizedLaws
import Derived.Test.YtgfnmolbagilmaaProg
import Derived.Laws.Strings
import Derived.Test.YtgfnmolbagilmaaXd6
namespace Go.Proofs.Ytgfnmolbagilmaa
open Go Go.RowKit Fw
open Sha
open Ots
open Mk
set_option linter.unusedVariables false
set_option linter.unusedSimpArgs false
set_option maxRecDepth 20000 in
set_option maxHeartbeats 4000000 in
theorem copied_any (ver exp : Int) (l : List Rt.Rol) (w : World) (hl : l.length = 4) (hone : ∀ x, x ∈ l → x.1.oneCell' = true) (hk : Rt.RTok (⟨ver, exp, Rt.kds l⟩ : Rt.RT)) (h : ∀ y, y ∈ Rt.rowsR l → Rd w y.1 y.2.1 y.2.2) : Calls Try.prog 36 #[.agg (List.toArray (Rt.rootC ver exp l))] w (PostR (ι := List Rt.Rol) w (fun l' => l'.length = 4 ∧ Rt.kds l' = Rt.kds l ∧ ∀ x, x ∈ l' → x.1.oneCell' = true) (fun l' => .agg (List.toArray (Rt.rootC ver exp l'))) (fun _ => []) (fun l' => Rt.rowsR l')) := by
  refine calls_at (vs := [.agg (List.toArray (Rt.rootC ver exp l))]) (X := []) (H := []) (F := [(200, .rows (Rt.rowsR (l)))]) 20 Try.func36 rfl rfl rfl ((Sat.start0 w).read (f := .rows (Rt.rowsR (l))) 200 h off_nil) ?_
  refine cd_seq ?_
  refine cd_region ?_
  refine st_box (h := 1) rfl rfl rfl rfl (fun b1 => ?_)
  refine st_alloc (h := 2) ty27 rfl rfl rfl (fun b2 => ?_)
  refine op_nil ?_
  refine ax_then ?_
  refine At.regs (L' := [(1, _), (2, _)]) (.cons rfl (.cons rfl (.nil _))) ?_
  refine cd_seq ?_
  refine cd_seq ?_
  refine cd_region ?_
  refine st (ev_fieldAddr (b := _) Try.underlying27 (f := _) rfl ty25 (by decide) rfl) rfl rfl rfl ?_
  refine st (ld_blk (h := 1) ty25 rfl rfl rfl (by rw [Rt.rootC_len _ _ (by omega)]; decide)) rfl rfl rfl ?_
  refine at_eq (i := 6) (v' := .agg (List.toArray (Rt.rolsC l))) rfl (congrArg (fun x => Value.agg (List.toArray x)) (Rt.rootC_rols _ _ hl)) ?_
  refine st (ev_move rfl) rfl rfl rfl ?_
  refine op_nil ?_
  refine ax_then ?_
  refine At.regs (L' := [(1, _), (2, _), (6, _), (7, _)]) (.cons rfl (.cons rfl (.cons rfl (.cons rfl (.nil _))))) ?_
  refine cd_block ?_
  refine at_rows_nil 201 ?_
  refine cd_loop (ι := List Rt.Rol) (fun m => m.length ≤ 4 ∧ Rt.kds m = Rt.kds (l.take m.length) ∧ (∀ y, y ∈ Rt.rowsR m → ∀ b', b' ∈ blkOf y.1 → w.heap.size ≤ b') ∧ ∀ y, y ∈ m → y.1.oneCell' = true) (fun m => 4 - m.length)
      (fun m => [(1, .pointer (some ⟨b1, 0, none⟩)), (2, .pointer (some ⟨b2, 0, none⟩)), (6, .agg (List.toArray (Rt.rolsC l))), (7, .int .i64 (m.length : Nat))])
      (fun m => [(1, .blk (b1) (.cells (Rt.rootC ver exp (m ++ l.drop (m).length)).toArray 27)), (2, .blk (b2) (.cells ([.int .i64 0, .int .i64 0, .slice none 0 0, .int .i64 0, .slice none 0 0, .int .i64 0, .slice none 0 0, .int .i64 0, .slice none 0 0, .int .i64 0]).toArray 27))])
      (fun m => [(200, .rows (Rt.rowsR (l))), (201, .rows (Rt.rowsR (m)))])
      [] (⟨Nat.zero_le _, rfl, (fun y hy => by cases hy), (fun y hy => by cases hy)⟩) (.cons rfl (.cons rfl (.cons rfl (.cons rfl (.nil _))))) (.cons rfl (.cons rfl (.nil _))) (.cons rfl (.cons rfl (.nil _))) (fun m hi => ?_)
  have hi1 := hi.1
  have e0 : (m.length : Int).toNat = m.length := by omega
  have hml : (m ++ l.drop m.length).length = 4 := by rw [List.length_append, List.length_drop]; omega
  refine cd_seq ?_
  refine cd_region ?_
  refine st (ev_lss rfl rfl) rfl rfl rfl ?_
  refine op_nil ?_
  refine ax_then ?_
  refine At.regs (L' := [(1, _), (2, _), (6, _), (7, _), (8, _)]) (.cons rfl (.cons rfl (.cons rfl (.cons rfl (.cons rfl (.nil _)))))) ?_
  refine cd_seq ?_
  refine cd_if rfl (fun hc8 => ?_) (fun hc8 => ?_)
  ·
    have hlt : m.length < 4 := by omega
    have hku := hk.h32 _ (Rt.kds_get (l := l) (i := m.length) (by omega))
    have hkm := hk.few _ (Rt.kds_get (l := l) (i := m.length) (by omega))
    have hoi : (l.getD m.length Rt.rol0).1.oneCell' = true := hone _ (by rw [List.getD_eq_getElem?_getD, List.getElem?_eq_getElem (by omega)]; exact List.getElem_mem _)
    have hput := fun v => (Rt.rootC_put ver exp (m := m) (l := l) rfl (by omega) hl v).trans (show _ = Rt.rootC ver exp ((m ++ [(v, (l.getD m.length Rt.rol0).2)]) ++ l.drop (m ++ [(v, (l.getD m.length Rt.rol0).2)]).length) by rw [List.length_append]; rfl)
    refine cd_skip ?_
    refine ax_then ?_
    refine At.regs (L' := [(1, _), (2, _), (6, _), (7, _), (8, _)]) (.cons rfl (.cons rfl (.cons rfl (.cons rfl (.cons rfl (.nil _)))))) ?_
    refine cd_seq ?_
    refine cd_block ?_
    refine cd_seq ?_
    refine cd_region ?_
    refine st (ev_move rfl) rfl rfl rfl ?_
    refine st (ev_index Try.underlying25 ty24 rfl rfl rfl (by omega) (by omega)) rfl rfl rfl ?_
    refine at_eq (i := 10) (v' := .agg (List.toArray [(l.getD m.length Rt.rol0).1, .int .i64 (l.getD m.length Rt.rol0).2.need])) rfl (congrArg Value.agg (by rw [e0]; exact ext_rols (by omega))) ?_
    refine st_alloc (h := 4) ty24 rfl rfl rfl (fun b4 => ?_)
    refine st (ev_assign rfl) rfl rfl rfl ?_
    refine st_store_all 4 ty24 rfl rfl rfl rfl rfl (by intro u0 hu0; simp at hu0; rcases hu0 with rfl | rfl; simpa using hoi; rfl) rfl rfl ?_
    refine op_nil ?_
    refine ax_then ?_
    refine At.regs (L' := [(1, _), (2, _), (3, _), (4, _), (6, _), (7, _), (8, _), (9, _), (10, _)]) (.cons rfl (.cons rfl (.cons rfl (.cons rfl (.cons rfl (.cons rfl (.cons rfl (.cons rfl (.cons rfl (.nil _)))))))))) ?_
    refine cd_region ?_
    refine st (ev_move rfl) rfl rfl rfl ?_
    refine st (ev_fieldAddr (b := _) Try.underlying24 (f := _) rfl ty22 (by decide) rfl) rfl rfl rfl ?_
    refine st (ld_blk1 (h := 4) ty22 rfl rfl rfl rfl) rfl rfl rfl ?_
    refine st_call has66 rfl (fun w1 sw => rn 14 (cloneh_any (l.getD m.length Rt.rol0).1 (l.getD m.length Rt.rol0).2.ks w1 hku (by omega) (sw.row (i := 200) rfl (Rt.rowsR_mem (by omega))))) nil_all rfl rfl (fun v14 _ => ?_)
    refine at_own_shape (h := 14) rfl (fun hs14 => ?_)
    refine st (ev_fieldAddr (b := _) Try.underlying27 (f := _) rfl ty25 (by decide) rfl) rfl rfl rfl ?_
    refine st (ev_indexAddr_arr Try.underlying25 ty24 rfl rfl (by omega) (by omega)) rfl rfl rfl ?_
    refine st (ev_fieldAddr (b := _) Try.underlying24 (f := _) rfl ty22 (by decide) rfl) rfl rfl rfl ?_
    refine st_store1 1 ty22 rfl rfl rfl hs14.2 (by rw [Rt.rootC_len _ _ (by omega), Int.toNat_natCast]; show 0 + 2 + m.length * 2 + 0 < 10; omega) rfl ?_
    refine at_heq (i := 1) (v' := .blk (b1) (.cells (Rt.rootC ver exp ((m ++ [(v14, (l.getD m.length Rt.rol0).2)]) ++ l.drop ((m ++ [(v14, (l.getD m.length Rt.rol0).2)])).length)).toArray 27)) rfl (by rw [← hput v14, Int.toNat_natCast]; rfl) ?_
    refine op_nil ?_
    refine ax_block ?_
    refine ax_then ?_
    refine At.regs (L' := [(1, _), (2, _), (3, _), (4, _), (6, _), (7, _), (8, _), (9, _), (10, _), (11, _), (12, _), (13, _), (14, _), (15, _), (16, _), (17, _)]) (.cons rfl (.cons rfl (.cons rfl (.cons rfl (.cons rfl (.cons rfl (.cons rfl (.cons rfl (.cons rfl (.cons rfl (.cons rfl (.cons rfl (.cons rfl (.cons rfl (.cons rfl (.cons rfl (.nil _))))))))))))))))) ?_
    refine at_rows_own (h := 14) (i := 201) (H' := [(1, _), (2, _)]) rfl rfl (.cons rfl (.cons rfl (.nil _))) rfl (fun b' hb' => by cases hb') (fun hf => ?_)
    refine cd_region ?_
    refine st (ev_add64 rfl rfl (by omega) (by omega)) rfl rfl rfl ?_
    refine st (ev_move rfl) rfl rfl rfl ?_
    refine op_nil ?_
    refine ax_eq (i := 7) (v' := .int .i64 ((m ++ [(v14, (l.getD m.length Rt.rol0).2)]).length : Nat)) rfl (by rw [List.length_append]; rfl) ?_
    refine ax_rows (i := 201) (rs' := Rt.rowsR (m ++ [(v14, (l.getD m.length Rt.rol0).2)])) rfl (fun y hy => ((Rt.rowsR_snoc m _ y).1 hy).elim (fun e => e ▸ List.mem_cons_self ..) (fun h => List.mem_cons_of_mem _ h)) ?_
    exact at_again ((m ++ [(v14, (l.getD m.length Rt.rol0).2)])) (⟨by rw [List.length_append]; simp; omega, by rw [Rt.kds_snoc, List.length_append, List.length_singleton, Rt.kds_take l (by omega), hi.2.1], (fun y hy => by rcases (Rt.rowsR_snoc m _ y).1 hy with rfl | hy; exact hf; exact hi.2.2.1 y hy), (fun y hy => by rcases List.mem_append.1 hy with hy | hy; exact hi.2.2.2 y hy; rw [List.mem_singleton.1 hy]; exact hs14.2)⟩) (by rw [List.length_append]; simp; omega) (.cons rfl (.cons rfl (.cons rfl (.cons rfl (.nil _))))) (.cons rfl (.cons rfl (.nil _))) (.cons rfl (.cons rfl (.nil _)))
  ·
    have hm4 : m.length = 4 := by omega
    have hdn : m ++ l.drop m.length = m := by rw [List.drop_eq_nil_of_le (by omega), List.append_nil]
    refine at_heq (i := 1) (v' := .blk (b1) (.cells (Rt.rootC ver exp m).toArray 27)) rfl (by rw [hdn]) ?_
    refine cd_exit ?_
    refine ax_then_exit ?_
    refine ax_then_exit ?_
    refine ax_block_hit ?_
    refine ax_then ?_
    refine At.regs (L' := [(1, _), (2, _)]) (.cons rfl (.cons rfl (.nil _))) ?_
    refine cd_seq ?_
    refine cd_region ?_
    refine st (ld_blk_all (h := 1) ty27 rfl rfl rfl (Rt.rootC_len _ _ (by omega))) rfl rfl rfl ?_
    refine st_store_all 2 ty27 rfl rfl rfl rfl (Rt.rootC_len _ _ (by omega)) (Rt.rootC_one _ _ hi.2.2.2) rfl rfl ?_
    refine op_nil ?_
    refine ax_then ?_
    refine At.regs (L' := [(2, _)]) (.cons rfl (.nil _)) ?_
    refine cd_ret ?_
    refine rt_cell (h0 := 2) (.inl rfl) Try.results36 ty27 rfl rfl rfl (Rt.rootC_len _ _ (by omega)) ?_
    exact fun w1 sw => ⟨m, ⟨hm4, by rw [hi.2.1, List.take_of_length_le (by omega)], hi.2.2.2⟩, rfl, sw.gives (.nil _), (fun y hy => ⟨sw.rd 201 _ rfl y hy, hi.2.2.1 y hy⟩), fun h e hh => (lk_nil hh).elim⟩
set_option maxRecDepth 20000 in
set_option maxHeartbeats 8000000 in
theorem follow_any (ver exp : Int) (l : List Rt.Rol) (lv : Value) (es : List Rt.Ev) (w : World) (hl : l.length = 4) (hone : ∀ x, x ∈ l → x.1.oneCell' = true) (hk : Rt.RTok (⟨ver, exp, Rt.kds l⟩ : Rt.RT)) (h : ∀ y, y ∈ Rt.rowsR l → Rd w y.1 y.2.1 y.2.2) (he : ∀ x, x ∈ es → Rt.EvOk x) (hel : es.length ≤ 4398046511104) (hlv : Rd w lv 2 (Rt.eflat es)) (hev : ∀ x, x ∈ es → Rt.EvRd w x) : Calls Try.prog 19 #[.agg (List.toArray (Rt.rootC ver exp l)), lv] w (PostE (ι := List Rt.Rol) w (Rt.rowsR l) (fun l' => l'.length = 4 ∧ Rt.kds l' = (Rt.follow (⟨ver, exp, Rt.kds l⟩ : Rt.RT) es).1.roles ∧ ∀ x, x ∈ l' → x.1.oneCell' = true) (fun l' => .tuple #[.agg (List.toArray (Rt.rootC (Rt.follow (⟨ver, exp, Rt.kds l⟩ : Rt.RT) es).1.ver (Rt.follow (⟨ver, exp, Rt.kds l⟩ : Rt.RT) es).1.exp l')), .int .i64 ((Rt.follow (⟨ver, exp, Rt.kds l⟩ : Rt.RT) es).2.1 : Nat), .int .i64 (Rt.follow (⟨ver, exp, Rt.kds l⟩ : Rt.RT) es).2.2]) (fun l' => Rt.rowsR l')) := by
  refine calls_at (vs := [.agg (List.toArray (Rt.rootC ver exp l)), lv]) (X := []) (H := []) (F := [(25, .rows (Rt.erows es)), (24, .sl lv 2 (Rt.eflat es)), (200, .rows (Rt.rowsR (l)))]) 36 Try.func19 rfl rfl rfl (((((Sat.start0 w).read (f := .rows (Rt.rowsR (l))) 200 h off_nil).read (f := .sl lv 2 (Rt.eflat es)) 24 hlv off_nil).read (f := .rows (Rt.erows es)) 25 (Rt.erows_rd hev) off_nil)) ?_
  refine cd_seq ?_
  refine cd_region ?_
  refine st_box (h := 2) rfl rfl rfl rfl (fun b2 => ?_)
  refine st_alloc (h := 4) ty27 rfl rfl rfl (fun b4 => ?_)
  refine st (ev_assign rfl) rfl rfl rfl ?_
  refine st (ev_assign rfl) rfl rfl rfl ?_
  refine op_nil ?_
  refine ax_then ?_
  refine At.regs (L' := [(1, _), (2, _), (4, _), (5, _), (6, _)]) (.cons rfl (.cons rfl (.cons rfl (.cons rfl (.cons rfl (.nil _)))))) ?_
  refine cd_seq ?_
  refine cd_region ?_
  refine st (ld_blk_all (h := 2) ty27 rfl rfl rfl (Rt.rootC_len _ _ (by omega))) rfl rfl rfl ?_
  refine st_callR 201 has36 rfl (fun w1 sw => copied_any ver exp l w1 hl hone hk (fun y hy => sw.rd 200 _ rfl y hy)) rfl rfl (fun l1 hx12 hf12 => ?_)
  have hl41 := hx12.1
  refine st_store_all 2 ty27 rfl rfl rfl rfl (Rt.rootC_len _ _ (by omega)) (Rt.rootC_one _ _ hx12.2.2) (Rt.rootC_len _ _ (by omega)) rfl ?_
  refine op_nil ?_
  refine ax_then ?_
  refine At.regs (L' := [(1, _), (2, _), (4, _), (5, _), (6, _)]) (.cons rfl (.cons rfl (.cons rfl (.cons rfl (.cons rfl (.nil _)))))) ?_
  refine cd_seq ?_
  refine cd_seq ?_
  refine cd_region ?_
  refine st (ev_move rfl) rfl rfl rfl ?_
  refine st (ev_len_rd (h := 24) (n := es.length) Try.underlying43 rfl rfl (Rt.eflat_len es) (by decide)) rfl rfl rfl ?_
  refine st (ev_move rfl) rfl rfl rfl ?_
  refine op_nil ?_
  refine ax_then ?_
  refine At.regs (L' := [(1, _), (2, _), (4, _), (5, _), (6, _), (13, _), (14, _), (15, _)]) (.cons rfl (.cons rfl (.cons rfl (.cons rfl (.cons rfl (.cons rfl (.cons rfl (.cons rfl (.nil _))))))))) ?_
  refine cd_block ?_
  refine cd_loop (ι := Nat × Int × Int × List Rt.Rol) (fun p => p.1 ≤ es.length ∧ p.2.2.2.length = 4 ∧ (∀ y, y ∈ p.2.2.2 → y.1.oneCell' = true) ∧ Rt.RTok ⟨p.2.1, p.2.2.1, Rt.kds p.2.2.2⟩ ∧ Rt.At (⟨ver, exp, Rt.kds l⟩ : Rt.RT) es p.1 ⟨p.2.1, p.2.2.1, Rt.kds p.2.2.2⟩ ∧ ∀ y, y ∈ Rt.rowsR p.2.2.2 → y ∈ Rt.rowsR l ∨ ∀ b', b' ∈ blkOf y.1 → w.heap.size ≤ b') (fun p => es.length - p.1)
      (fun p => [(1, lv), (2, .pointer (some ⟨b2, 0, none⟩)), (4, .pointer (some ⟨b4, 0, none⟩)), (13, lv), (14, .int .i64 (es.length : Nat)), (15, .int .i64 (p.1 : Nat))])
      (fun p => [(2, .blk (b2) (.cells (Rt.rootC p.2.1 p.2.2.1 p.2.2.2).toArray 27)), (4, .blk (b4) (.cells ([.int .i64 0, .int .i64 0, .slice none 0 0, .int .i64 0, .slice none 0 0, .int .i64 0, .slice none 0 0, .int .i64 0, .slice none 0 0, .int .i64 0]).toArray 27))])
      (fun p => [(24, .sl lv 2 (Rt.eflat es)), (25, .rows (Rt.erows es)), (201, .rows (Rt.rowsR (p.2.2.2)))])
      (0, ver, exp, l1) (⟨Nat.zero_le _, hl41, hx12.2.2, hx12.2.1 ▸ hk, hx12.2.1 ▸ Rt.At.init _ _, fun y hy => .inr (hf12 y hy)⟩) (.cons rfl (.cons rfl (.cons rfl (.cons rfl (.cons rfl (.cons rfl (.nil _))))))) (.cons rfl (.cons rfl (.nil _))) (.cons rfl (.cons rfl (.cons rfl (.nil _)))) (fun p hi => ?_)
  obtain ⟨i, v, x, r⟩ := p
  dsimp only at hi ⊢
  have hi1 := hi.1
  have hr4 := hi.2.1
  have e0 : (i : Int).toNat = i := by omega
  refine cd_seq ?_
  refine cd_region ?_
  refine st (ev_lss rfl rfl) rfl rfl rfl ?_
  refine op_nil ?_
  refine ax_then ?_
  refine At.regs (L' := [(1, _), (2, _), (4, _), (13, _), (14, _), (15, _), (16, _)]) (.cons rfl (.cons rfl (.cons rfl (.cons rfl (.cons rfl (.cons rfl (.cons rfl (.nil _)))))))) ?_
  refine cd_seq ?_
  refine cd_if rfl (fun hc16 => ?_) (fun hc16 => ?_)
  ·
    have hlt : i < es.length := by omega
    have hxo := he es[i] (List.getElem_mem hlt)
    have hp1 := rd_shape (hev es[i] (List.getElem_mem hlt)).1
    have hp2 := rd_shape (hev es[i] (List.getElem_mem hlt)).2.1
    refine cd_skip ?_
    refine ax_then ?_
    refine At.regs (L' := [(1, _), (2, _), (4, _), (13, _), (14, _), (15, _), (16, _)]) (.cons rfl (.cons rfl (.cons rfl (.cons rfl (.cons rfl (.cons rfl (.cons rfl (.nil _)))))))) ?_
    refine cd_seq ?_
    refine cd_block ?_
    refine cd_seq ?_
    refine cd_region ?_
    refine st (ev_move rfl) rfl rfl rfl ?_
    refine st (ev_indexAddr_rd (h := 24) (n := es.length) Try.underlying43 ty31 rfl rfl rfl (Rt.eflat_len es) (by decide) (by omega) (by omega)) rfl rfl rfl ?_
    refine st (ld_rd (k := (i : Int).toNat * 2) (h := 24) ty31 rfl rfl rfl (by decide) (by rw [Rt.eflat_len, e0]; omega)) rfl rfl rfl ?_
    refine at_eq (i := 19) (v' := .agg (List.toArray [es[i].pb, es[i].mv])) rfl (congrArg (fun x => Value.agg (List.toArray x)) (by rw [e0]; exact Rt.eflat_get hlt)) ?_
    refine st_alloc (h := 8) ty31 rfl rfl rfl (fun b8 => ?_)
    refine st (ev_assign rfl) rfl rfl rfl ?_
    refine st_store_all 8 ty31 rfl rfl rfl rfl rfl (by intro u0 hu0; simp only [List.mem_cons, List.not_mem_nil, or_false] at hu0; rcases hu0 with rfl | rfl; exact hp1.2; exact hp2.2) rfl rfl ?_
    refine op_nil ?_
    refine ax_then ?_
    refine At.regs (L' := [(1, _), (2, _), (4, _), (7, _), (8, _), (13, _), (14, _), (15, _), (16, _), (17, _), (18, _), (19, _)]) (.cons rfl (.cons rfl (.cons rfl (.cons rfl (.cons rfl (.cons rfl (.cons rfl (.cons rfl (.cons rfl (.cons rfl (.cons rfl (.cons rfl (.nil _))))))))))))) ?_
    refine cd_seq ?_
    refine cd_region ?_
    refine st (ld_blk_all (h := 2) ty27 rfl rfl rfl (Rt.rootC_len _ _ (by omega))) rfl rfl rfl ?_
    refine st (ld_blk_all (h := 8) ty31 rfl rfl rfl (by first | omega | (simp only [List.length_append, List.length_cons, List.length_nil, List.length_set, List.length_replicate, List.length_take, List.length_drop, ints_length, wr_length, sha_len, node_len, recov_len, Ky.named_len, Ky.keyPub_len, Ky.hashOf_len] <;> omega) | rfl)) rfl rfl rfl ?_
    refine st_callR 202 has14 rfl (fun w1 sw => next_any es[i].pb es[i].mv v x r es[i].body es[i].ms w1 hr4 hi.2.2.1 hi.2.2.2.1 hxo.1 hxo.2.1 hxo.2.2.1 hxo.2.2.2 (fun y hy => sw.rd 201 _ rfl y hy) (Rt.ev_of_rows (fun y hy => sw.rd 25 _ rfl y hy) (List.getElem_mem hlt)).1 (Rt.ev_of_rows (fun y hy => sw.rd 25 _ rfl y hy) (List.getElem_mem hlt)).2.1 (Rt.ev_of_rows (fun y hy => sw.rd 25 _ rfl y hy) (List.getElem_mem hlt)).2.2) rfl rfl (fun r' hx hf => ?_)
    have hr4' := hx.1
    refine st (ev_move rfl) rfl rfl rfl ?_
    refine st (ev_extract rfl rfl) rfl rfl rfl ?_
    refine st (ev_extract rfl rfl) rfl rfl rfl ?_
    refine st_alloc (h := 9) ty27 rfl rfl rfl (fun b9 => ?_)
    refine st_store_all 9 ty27 rfl rfl rfl rfl (Rt.rootC_len _ _ (by omega)) (Rt.rootC_one _ _ hx.2.2) rfl rfl ?_
    refine st (ev_assign rfl) rfl rfl rfl ?_
    refine op_nil ?_
    refine ax_then ?_
    refine At.regs (L' := [(1, _), (2, _), (4, _), (7, _), (8, _), (9, _), (10, _), (13, _), (14, _), (15, _), (16, _), (17, _), (18, _), (19, _), (20, _), (21, _), (22, _), (23, _), (24, _), (25, _)]) (.cons rfl (.cons rfl (.cons rfl (.cons rfl (.cons rfl (.cons rfl (.cons rfl (.cons rfl (.cons rfl (.cons rfl (.cons rfl (.cons rfl (.cons rfl (.cons rfl (.cons rfl (.cons rfl (.cons rfl (.cons rfl (.cons rfl (.cons rfl (.nil _))))))))))))))))))))) ?_
    refine cd_seq ?_
    refine cd_seq ?_
    refine cd_region ?_
    refine st (ev_move rfl) rfl rfl rfl ?_
    refine st (ev_neq rfl rfl) rfl rfl rfl ?_
    refine op_nil ?_
    refine ax_then ?_
    refine At.regs (L' := [(1, _), (2, _), (4, _), (7, _), (8, _), (9, _), (10, _), (13, _), (14, _), (15, _), (16, _), (17, _), (18, _), (19, _), (20, _), (21, _), (22, _), (23, _), (24, _), (25, _), (26, _), (27, _)]) (.cons rfl (.cons rfl (.cons rfl (.cons rfl (.cons rfl (.cons rfl (.cons rfl (.cons rfl (.cons rfl (.cons rfl (.cons rfl (.cons rfl (.cons rfl (.cons rfl (.cons rfl (.cons rfl (.cons rfl (.cons rfl (.cons rfl (.cons rfl (.cons rfl (.cons rfl (.nil _))))))))))))))))))))))) ?_
    refine cd_if rfl (fun hc27 => ?_) (fun hc27 => ?_)
    ·
      refine cd_seq ?_
      refine cd_region ?_
      refine st (ld_blk_all (h := 2) ty27 rfl rfl rfl (Rt.rootC_len _ _ (by omega))) rfl rfl rfl ?_
      refine st (ev_move rfl) rfl rfl rfl ?_
      refine st (ev_move rfl) rfl rfl rfl ?_
      refine st_store_all 4 ty27 rfl rfl rfl rfl (Rt.rootC_len _ _ (by omega)) (Rt.rootC_one _ _ hi.2.2.1) rfl rfl ?_
      refine st (ev_assign rfl) rfl rfl rfl ?_
      refine st (ev_assign rfl) rfl rfl rfl ?_
      refine op_nil ?_
      refine ax_then ?_
      refine At.regs (L' := [(1, _), (2, _), (4, _), (5, _), (6, _), (7, _), (8, _), (9, _), (10, _), (13, _), (14, _), (15, _), (16, _), (17, _), (18, _), (19, _), (20, _), (21, _), (22, _), (23, _), (24, _), (25, _), (26, _), (27, _), (28, _), (29, _), (30, _)]) (.cons rfl (.cons rfl (.cons rfl (.cons rfl (.cons rfl (.cons rfl (.cons rfl (.cons rfl (.cons rfl (.cons rfl (.cons rfl (.cons rfl (.cons rfl (.cons rfl (.cons rfl (.cons rfl (.cons rfl (.cons rfl (.cons rfl (.cons rfl (.cons rfl (.cons rfl (.cons rfl (.cons rfl (.cons rfl (.cons rfl (.cons rfl (.nil _)))))))))))))))))))))))))))) ?_
      refine cd_ret ?_
      refine ax_then_ret ?_
      refine ax_block_ret ?_
      refine ax_then_ret ?_
      refine ax_then_ret ?_
      refine ax_block_ret ?_
      refine ax_then_ret ?_
      have hd := hi.2.2.2.2.1.stop hlt hc27
      refine rt_cell_tmp2 (h0 := 4) (.inl rfl) Try.results19 ty27 rfl rfl rfl (Rt.rootC_len _ _ (by omega)) rfl rfl ?_
      exact fun w1 sw => ⟨r, ⟨hr4, by rw [hd], hi.2.2.1⟩, by rw [hd] <;> rfl, sw.gives (.nil _), fun y hy => ⟨sw.rd 201 _ rfl y hy, hi.2.2.2.2.2 y hy⟩⟩
    ·
      refine cd_skip ?_
      refine ax_then ?_
      refine At.regs (L' := [(1, _), (2, _), (4, _), (7, _), (8, _), (9, _), (10, _), (13, _), (14, _), (15, _), (16, _), (17, _), (18, _), (19, _), (20, _), (21, _), (22, _), (23, _), (24, _), (25, _), (26, _), (27, _)]) (.cons rfl (.cons rfl (.cons rfl (.cons rfl (.cons rfl (.cons rfl (.cons rfl (.cons rfl (.cons rfl (.cons rfl (.cons rfl (.cons rfl (.cons rfl (.cons rfl (.cons rfl (.cons rfl (.cons rfl (.cons rfl (.cons rfl (.cons rfl (.cons rfl (.cons rfl (.nil _))))))))))))))))))))))) ?_
      refine cd_region ?_
      refine st (ld_blk_all (h := 9) ty27 rfl rfl rfl (Rt.rootC_len _ _ (by omega))) rfl rfl rfl ?_
      refine st_store_all 2 ty27 rfl rfl rfl rfl (Rt.rootC_len _ _ (by omega)) (Rt.rootC_one _ _ hx.2.2) (Rt.rootC_len _ _ (by omega)) rfl ?_
      refine op_nil ?_
      refine ax_block ?_
      refine ax_then ?_
      refine At.regs (L' := [(1, _), (2, _), (4, _), (7, _), (8, _), (9, _), (10, _), (13, _), (14, _), (15, _), (16, _), (17, _), (18, _), (19, _), (20, _), (21, _), (22, _), (23, _), (24, _), (25, _), (26, _), (27, _), (31, _)]) (.cons rfl (.cons rfl (.cons rfl (.cons rfl (.cons rfl (.cons rfl (.cons rfl (.cons rfl (.cons rfl (.cons rfl (.cons rfl (.cons rfl (.cons rfl (.cons rfl (.cons rfl (.cons rfl (.cons rfl (.cons rfl (.cons rfl (.cons rfl (.cons rfl (.cons rfl (.cons rfl (.nil _)))))))))))))))))))))))) ?_
      refine at_rowsub (i := 202) 201 rfl (fun y hy => hy) ?_
      refine cd_region ?_
      refine st (ev_add64 rfl rfl (by omega) (by omega)) rfl rfl rfl ?_
      refine st (ev_move rfl) rfl rfl rfl ?_
      refine op_nil ?_
      exact at_again ((i + 1, (Rt.next (⟨v, x, Rt.kds r⟩ : Rt.RT) es[i].body es[i].ms).1.ver, (Rt.next (⟨v, x, Rt.kds r⟩ : Rt.RT) es[i].body es[i].ms).1.exp, r')) (⟨by show i + 1 ≤ es.length; omega, hx.1, hx.2.2, (by show Rt.RTok ⟨_, _, Rt.kds r'⟩; rw [hx.2.1]; exact Rt.next_ok _ _ _), (by show Rt.At _ _ _ ⟨_, _, Rt.kds r'⟩; rw [hx.2.1]; exact hi.2.2.2.2.1.step hlt hc27), fun y hy => .inr (hf y hy)⟩) (by show es.length - (i + 1) < es.length - i; omega) (.cons rfl (.cons rfl (.cons rfl (.cons rfl (.cons rfl (.cons rfl (.nil _))))))) (.cons rfl (.cons rfl (.nil _))) (.cons rfl (.cons rfl (.cons rfl (.nil _))))
  ·
    obtain rfl : i = es.length := by omega
    have hd := hi.2.2.2.2.1.done
    refine cd_exit ?_
    refine ax_then_exit ?_
    refine ax_then_exit ?_
    refine ax_block_hit ?_
    refine ax_then ?_
    refine At.regs (L' := [(1, _), (2, _), (4, _)]) (.cons rfl (.cons rfl (.cons rfl (.nil _)))) ?_
    refine cd_seq ?_
    refine cd_region ?_
    refine st (ld_blk_all (h := 2) ty27 rfl rfl rfl (Rt.rootC_len _ _ (by omega))) rfl rfl rfl ?_
    refine st (ev_move rfl) rfl rfl rfl ?_
    refine st (ev_len_rd (h := 24) (n := es.length) Try.underlying43 rfl rfl (Rt.eflat_len es) (by decide)) rfl rfl rfl ?_
    refine st_store_all 4 ty27 rfl rfl rfl rfl (Rt.rootC_len _ _ (by omega)) (Rt.rootC_one _ _ hi.2.2.1) rfl rfl ?_
    refine st (ev_assign rfl) rfl rfl rfl ?_
    refine st (ev_assign rfl) rfl rfl rfl ?_
    refine op_nil ?_
    refine ax_then ?_
    refine At.regs (L' := [(4, _), (5, _), (6, _)]) (.cons rfl (.cons rfl (.cons rfl (.nil _)))) ?_
    refine cd_ret ?_
    refine rt_cell_tmp2 (h0 := 4) (.inl rfl) Try.results19 ty27 rfl rfl rfl (Rt.rootC_len _ _ (by omega)) rfl rfl ?_
    exact fun w1 sw => ⟨r, ⟨hr4, by rw [hd], hi.2.2.1⟩, by rw [hd] <;> rfl, sw.gives (.nil _), fun y hy => ⟨sw.rd 201 _ rfl y hy, hi.2.2.2.2.2 y hy⟩⟩
set_option maxRecDepth 20000 in
set_option maxHeartbeats 8000000 in
theorem qfollow_any (ver exp : Int) (l : List Rt.Rol) (lv : Value) (es : List Rt.Ev) (w : World) (hl : l.length = 4) (hone : ∀ x, x ∈ l → x.1.oneCell' = true) (hk : Rt.RTok (⟨ver, exp, Rt.kds l⟩ : Rt.RT)) (h : ∀ y, y ∈ Rt.rowsR l → Rd w y.1 y.2.1 y.2.2) (he : ∀ x, x ∈ es → Rt.EvOk x) (hel : es.length ≤ 4398046511104) (hlv : Rd w lv 2 (Rt.eflat es)) (hev : ∀ x, x ∈ es → Rt.EvRd w x) : Calls Try.prog 20 #[.agg (List.toArray (Rt.rootC ver exp l)), lv] w (PostE (ι := List Rt.Rol) w (Rt.rowsR l) (fun l' => l'.length = 4 ∧ Rt.kds l' = (Rt.follow (⟨ver, exp, Rt.kds l⟩ : Rt.RT) es).1.roles ∧ ∀ x, x ∈ l' → x.1.oneCell' = true) (fun l' => .tuple #[.agg (List.toArray (Rt.rootC (Rt.follow (⟨ver, exp, Rt.kds l⟩ : Rt.RT) es).1.ver (Rt.follow (⟨ver, exp, Rt.kds l⟩ : Rt.RT) es).1.exp l')), .int .i64 ((Rt.follow (⟨ver, exp, Rt.kds l⟩ : Rt.RT) es).2.1 : Nat), .int .i64 (Rt.follow (⟨ver, exp, Rt.kds l⟩ : Rt.RT) es).2.2]) (fun l' => Rt.rowsR l')) := by
  refine calls_at (vs := [.agg (List.toArray (Rt.rootC ver exp l)), lv]) (X := []) (H := []) (F := [(25, .rows (Rt.erows es)), (24, .sl lv 2 (Rt.eflat es)), (200, .rows (Rt.rowsR (l)))]) 34 Try.func20 rfl rfl rfl (((((Sat.start0 w).read (f := .rows (Rt.rowsR (l))) 200 h off_nil).read (f := .sl lv 2 (Rt.eflat es)) 24 hlv off_nil).read (f := .rows (Rt.erows es)) 25 (Rt.erows_rd hev) off_nil)) ?_
  refine cd_seq ?_
  refine cd_region ?_
  refine st_box (h := 2) rfl rfl rfl rfl (fun b2 => ?_)
  refine st_alloc (h := 4) ty27 rfl rfl rfl (fun b4 => ?_)
  refine st (ev_assign rfl) rfl rfl rfl ?_
  refine st (ev_assign rfl) rfl rfl rfl ?_
  refine op_nil ?_
  refine ax_then ?_
  refine At.regs (L' := [(1, _), (2, _), (4, _), (5, _), (6, _)]) (.cons rfl (.cons rfl (.cons rfl (.cons rfl (.cons rfl (.nil _)))))) ?_
  refine cd_seq ?_
  refine cd_seq ?_
  refine cd_region ?_
  refine st (ev_assign rfl) rfl rfl rfl ?_
  refine op_nil ?_
  refine ax_then ?_
  refine At.regs (L' := [(1, _), (2, _), (4, _), (5, _), (6, _), (7, _)]) (.cons rfl (.cons rfl (.cons rfl (.cons rfl (.cons rfl (.cons rfl (.nil _))))))) ?_
  refine cd_block ?_
  refine at_rowsub (i := 200) 201 rfl (fun y hy => hy) ?_
  refine cd_loop (ι := Nat × Int × Int × List Rt.Rol) (fun p => p.1 ≤ es.length ∧ p.2.2.2.length = 4 ∧ (∀ y, y ∈ p.2.2.2 → y.1.oneCell' = true) ∧ Rt.RTok ⟨p.2.1, p.2.2.1, Rt.kds p.2.2.2⟩ ∧ Rt.At (⟨ver, exp, Rt.kds l⟩ : Rt.RT) es p.1 ⟨p.2.1, p.2.2.1, Rt.kds p.2.2.2⟩ ∧ ∀ y, y ∈ Rt.rowsR p.2.2.2 → y ∈ Rt.rowsR l ∨ ∀ b', b' ∈ blkOf y.1 → w.heap.size ≤ b') (fun p => es.length - p.1)
      (fun p => [(1, lv), (2, .pointer (some ⟨b2, 0, none⟩)), (4, .pointer (some ⟨b4, 0, none⟩)), (7, .int .i64 (p.1 : Nat))])
      (fun p => [(2, .blk (b2) (.cells (Rt.rootC p.2.1 p.2.2.1 p.2.2.2).toArray 27)), (4, .blk (b4) (.cells ([.int .i64 0, .int .i64 0, .slice none 0 0, .int .i64 0, .slice none 0 0, .int .i64 0, .slice none 0 0, .int .i64 0, .slice none 0 0, .int .i64 0]).toArray 27))])
      (fun p => [(24, .sl lv 2 (Rt.eflat es)), (25, .rows (Rt.erows es)), (201, .rows (Rt.rowsR (p.2.2.2)))])
      (0, ver, exp, l) (⟨Nat.zero_le _, hl, hone, hk, Rt.At.init _ _, fun y hy => .inl hy⟩) (.cons rfl (.cons rfl (.cons rfl (.cons rfl (.nil _))))) (.cons rfl (.cons rfl (.nil _))) (.cons rfl (.cons rfl (.cons rfl (.nil _)))) (fun p hi => ?_)
  obtain ⟨i, v, x, r⟩ := p
  dsimp only at hi ⊢
  have hi1 := hi.1
  have hr4 := hi.2.1
  have e0 : (i : Int).toNat = i := by omega
  refine cd_seq ?_
  refine cd_seq ?_
  refine cd_region ?_
  refine st (ev_move rfl) rfl rfl rfl ?_
  refine st (ev_move rfl) rfl rfl rfl ?_
  refine st (ev_len_rd (h := 24) (n := es.length) Try.underlying43 rfl rfl (Rt.eflat_len es) (by decide)) rfl rfl rfl ?_
  refine st (ev_lss rfl rfl) rfl rfl rfl ?_
  refine op_nil ?_
  refine ax_then ?_
  refine At.regs (L' := [(1, _), (2, _), (4, _), (7, _), (10, _), (11, _), (12, _), (13, _)]) (.cons rfl (.cons rfl (.cons rfl (.cons rfl (.cons rfl (.cons rfl (.cons rfl (.cons rfl (.nil _))))))))) ?_
  refine cd_if rfl (fun hc13 => ?_) (fun hc13 => ?_)
  ·
    have hlt : i < es.length := by omega
    have hxo := he es[i] (List.getElem_mem hlt)
    have hp1 := rd_shape (hev es[i] (List.getElem_mem hlt)).1
    have hp2 := rd_shape (hev es[i] (List.getElem_mem hlt)).2.1
    refine cd_skip ?_
    refine ax_then ?_
    refine At.regs (L' := [(1, _), (2, _), (4, _), (7, _), (10, _), (11, _), (12, _), (13, _)]) (.cons rfl (.cons rfl (.cons rfl (.cons rfl (.cons rfl (.cons rfl (.cons rfl (.cons rfl (.nil _))))))))) ?_
    refine cd_seq ?_
    refine cd_block ?_
    refine cd_seq ?_
    refine cd_mixp [(300, .mem b2 0 (Rt.rootC v x r)), (24, .sl lv 2 (Rt.eflat es))] hmix ?_
    refine mxp (i := 0) rfl (by decide +kernel) (by decide +kernel) (by decide +kernel) rfl (fun w0 => ld_mem_all (h := 300) ty27 rfl rfl rfl (Rt.rootC_len _ _ (by omega))) rfl rfl (fun w sw => CF.cons (lies_blk (sw.blk_eq (h := 2) rfl)) (sw.cf (.cons rfl (.nil _)))) ?_
    refine mxp (i := 1) rfl (by decide +kernel) (by decide +kernel) (by decide +kernel) rfl (fun w0 => ev_move rfl) rfl rfl (fun w sw => CF.cons (lies_blk (sw.blk_eq (h := 2) rfl)) (sw.cf (.cons rfl (.nil _)))) ?_
    refine mxp (i := 2) rfl (by decide +kernel) (by decide +kernel) (by decide +kernel) rfl (fun w0 => ev_move rfl) rfl rfl (fun w sw => CF.cons (lies_blk (sw.blk_eq (h := 2) rfl)) (sw.cf (.cons rfl (.nil _)))) ?_
    refine mxp (i := 3) rfl (by decide +kernel) (by decide +kernel) (by decide +kernel) rfl (fun w0 => ev_indexAddr_rd (h := 24) (n := es.length) Try.underlying43 ty31 rfl rfl rfl (Rt.eflat_len es) (by decide) (by omega) (by omega)) rfl rfl (fun w sw => CF.cons (lies_blk (sw.blk_eq (h := 2) rfl)) (sw.cf (.cons rfl (.nil _)))) ?_
    refine mxp (i := 4) rfl (by decide +kernel) (by decide +kernel) (by decide +kernel) rfl (fun w0 => ld_rd (k := (i : Int).toNat * 2) (h := 24) ty31 rfl rfl rfl (by decide) (by rw [Rt.eflat_len, e0]; omega)) rfl rfl (fun w sw => CF.cons (lies_blk (sw.blk_eq (h := 2) rfl)) (sw.cf (.cons rfl (.nil _)))) ?_
    refine at_eq (i := 21) (v' := .agg (List.toArray [es[i].pb, es[i].mv])) rfl (congrArg (fun x => Value.agg (List.toArray x)) (by rw [e0]; exact Rt.eflat_get hlt)) ?_
    refine mxp_two (i := 5) (j := 9) (by decide +kernel) (fun w sw => CF.cons (lies_blk (sw.blk_eq (h := 2) rfl)) (sw.cf (.cons rfl (.nil _)))) ?_ ?_
    ·
      refine wo (i := 5) rfl ?_
      refine st_callR 202 has15 rfl (fun w1 sw => qnext_any es[i].pb es[i].mv v x r es[i].body es[i].ms w1 hr4 hi.2.2.1 hi.2.2.2.1 hxo.1 hxo.2.1 hxo.2.2.1 hxo.2.2.2 (fun y hy => sw.rd 201 _ rfl y hy) (Rt.ev_of_rows (fun y hy => sw.rd 25 _ rfl y hy) (List.getElem_mem hlt)).1 (Rt.ev_of_rows (fun y hy => sw.rd 25 _ rfl y hy) (List.getElem_mem hlt)).2.1 (Rt.ev_of_rows (fun y hy => sw.rd 25 _ rfl y hy) (List.getElem_mem hlt)).2.2) rfl rfl (fun r' hx hf => ?_)
      have hr4' := hx.1
      refine op_nil ?_
      refine ax_then ?_
      refine mxp (i := 6) rfl (by decide +kernel) (by decide +kernel) (by decide +kernel) rfl (fun w0 => ev_move rfl) rfl rfl (fun w sw => CF.cons (lies_blk (sw.blk_eq (h := 2) rfl)) (sw.cf (.cons rfl (.nil _)))) ?_
      refine mxp (i := 7) rfl (by decide +kernel) (by decide +kernel) (by decide +kernel) rfl (fun w0 => ev_extract rfl rfl) rfl rfl (fun w sw => CF.cons (lies_blk (sw.blk_eq (h := 2) rfl)) (sw.cf (.cons rfl (.nil _)))) ?_
      refine mxp (i := 8) rfl (by decide +kernel) (by decide +kernel) (by decide +kernel) rfl (fun w0 => ev_extract rfl rfl) rfl rfl (fun w sw => CF.cons (lies_blk (sw.blk_eq (h := 2) rfl)) (sw.cf (.cons rfl (.nil _)))) ?_
      refine mxp_one (i := 9) (by decide +kernel) (fun w sw => CF.cons (lies_blk (sw.blk_eq (h := 2) rfl)) (sw.cf (.cons rfl (.nil _)))) ?_
      refine wo (i := 9) rfl ?_
      refine st_alloc (h := 8) ty27 rfl rfl rfl (fun b8 => ?_)
      refine op_nil ?_
      refine ax_then ?_
      refine mxp_one (i := 10) (by decide +kernel) (fun w sw => CF.cons (lies_blk (sw.blk_eq (h := 2) rfl)) (sw.cf (.cons rfl (.nil _)))) ?_
      refine wo (i := 10) rfl ?_
      refine st_store_all 8 ty27 rfl rfl rfl rfl (Rt.rootC_len _ _ (by omega)) (Rt.rootC_one _ _ hx.2.2) rfl rfl ?_
      refine op_nil ?_
      refine ax_then ?_
      refine mxp (i := 11) rfl (by decide +kernel) (by decide +kernel) (by decide +kernel) rfl (fun w0 => ev_assign rfl) rfl rfl (fun w sw => CF.cons (lies_blk (sw.blk_eq (h := 2) rfl)) (sw.cf (.cons rfl (.nil _)))) ?_
      refine mxp_done (by decide +kernel) (fun w sw => CF.cons (lies_blk (sw.blk_eq (h := 2) rfl)) (sw.cf (.cons rfl (.nil _)))) ?_
      refine ax_then ?_
      refine At.regs (L' := [(1, _), (2, _), (4, _), (7, _), (8, _), (9, _), (10, _), (11, _), (12, _), (13, _), (16, _), (17, _), (18, _), (19, _), (20, _), (21, _), (22, _), (23, _), (24, _)]) (.cons rfl (.cons rfl (.cons rfl (.cons rfl (.cons rfl (.cons rfl (.cons rfl (.cons rfl (.cons rfl (.cons rfl (.cons rfl (.cons rfl (.cons rfl (.cons rfl (.cons rfl (.cons rfl (.cons rfl (.cons rfl (.cons rfl (.nil _)))))))))))))))))))) ?_
      refine cd_seq ?_
      refine cd_seq ?_
      refine cd_region ?_
      refine st (ev_move rfl) rfl rfl rfl ?_
      refine st (ev_neq rfl rfl) rfl rfl rfl ?_
      refine op_nil ?_
      refine ax_then ?_
      refine At.regs (L' := [(1, _), (2, _), (4, _), (7, _), (8, _), (9, _), (10, _), (11, _), (12, _), (13, _), (16, _), (17, _), (18, _), (19, _), (20, _), (21, _), (22, _), (23, _), (24, _), (25, _), (26, _)]) (.cons rfl (.cons rfl (.cons rfl (.cons rfl (.cons rfl (.cons rfl (.cons rfl (.cons rfl (.cons rfl (.cons rfl (.cons rfl (.cons rfl (.cons rfl (.cons rfl (.cons rfl (.cons rfl (.cons rfl (.cons rfl (.cons rfl (.cons rfl (.cons rfl (.nil _)))))))))))))))))))))) ?_
      refine cd_if rfl (fun hc26 => ?_) (fun hc26 => ?_)
      ·
        refine cd_seq ?_
        refine cd_region ?_
        refine st (ld_blk_all (h := 2) ty27 rfl rfl rfl (Rt.rootC_len _ _ (by omega))) rfl rfl rfl ?_
        refine st (ev_move rfl) rfl rfl rfl ?_
        refine st (ev_move rfl) rfl rfl rfl ?_
        refine st_store_all 4 ty27 rfl rfl rfl rfl (Rt.rootC_len _ _ (by omega)) (Rt.rootC_one _ _ hi.2.2.1) rfl rfl ?_
        refine st (ev_assign rfl) rfl rfl rfl ?_
        refine st (ev_assign rfl) rfl rfl rfl ?_
        refine op_nil ?_
        refine ax_then ?_
        refine At.regs (L' := [(1, _), (2, _), (4, _), (5, _), (6, _), (7, _), (8, _), (9, _), (10, _), (11, _), (12, _), (13, _), (16, _), (17, _), (18, _), (19, _), (20, _), (21, _), (22, _), (23, _), (24, _), (25, _), (26, _), (27, _), (28, _), (29, _)]) (.cons rfl (.cons rfl (.cons rfl (.cons rfl (.cons rfl (.cons rfl (.cons rfl (.cons rfl (.cons rfl (.cons rfl (.cons rfl (.cons rfl (.cons rfl (.cons rfl (.cons rfl (.cons rfl (.cons rfl (.cons rfl (.cons rfl (.cons rfl (.cons rfl (.cons rfl (.cons rfl (.cons rfl (.cons rfl (.cons rfl (.nil _))))))))))))))))))))))))))) ?_
        refine cd_ret ?_
        refine ax_then_ret ?_
        refine ax_block_ret ?_
        refine ax_then_ret ?_
        refine ax_then_ret ?_
        refine ax_block_ret ?_
        refine ax_then_ret ?_
        have hd := hi.2.2.2.2.1.stop hlt hc26
        refine rt_cell_tmp2 (h0 := 4) (.inl rfl) Try.results20 ty27 rfl rfl rfl (Rt.rootC_len _ _ (by omega)) rfl rfl ?_
        exact fun w1 sw => ⟨r, ⟨hr4, by rw [hd], hi.2.2.1⟩, by rw [hd] <;> rfl, sw.gives (.nil _), fun y hy => ⟨sw.rd 201 _ rfl y hy, hi.2.2.2.2.2 y hy⟩⟩
      ·
        refine cd_skip ?_
        refine ax_then ?_
        refine At.regs (L' := [(1, _), (2, _), (4, _), (7, _), (8, _), (9, _), (10, _), (11, _), (12, _), (13, _), (16, _), (17, _), (18, _), (19, _), (20, _), (21, _), (22, _), (23, _), (24, _), (25, _), (26, _)]) (.cons rfl (.cons rfl (.cons rfl (.cons rfl (.cons rfl (.cons rfl (.cons rfl (.cons rfl (.cons rfl (.cons rfl (.cons rfl (.cons rfl (.cons rfl (.cons rfl (.cons rfl (.cons rfl (.cons rfl (.cons rfl (.cons rfl (.cons rfl (.cons rfl (.nil _)))))))))))))))))))))) ?_
        refine cd_region ?_
        refine st (ld_blk_all (h := 8) ty27 rfl rfl rfl (Rt.rootC_len _ _ (by omega))) rfl rfl rfl ?_
        refine st_store_all 2 ty27 rfl rfl rfl rfl (Rt.rootC_len _ _ (by omega)) (Rt.rootC_one _ _ hx.2.2) (Rt.rootC_len _ _ (by omega)) rfl ?_
        refine op_nil ?_
        refine ax_block ?_
        refine ax_then ?_
        refine At.regs (L' := [(1, _), (2, _), (4, _), (7, _), (8, _), (9, _), (10, _), (11, _), (12, _), (13, _), (16, _), (17, _), (18, _), (19, _), (20, _), (21, _), (22, _), (23, _), (24, _), (25, _), (26, _), (30, _)]) (.cons rfl (.cons rfl (.cons rfl (.cons rfl (.cons rfl (.cons rfl (.cons rfl (.cons rfl (.cons rfl (.cons rfl (.cons rfl (.cons rfl (.cons rfl (.cons rfl (.cons rfl (.cons rfl (.cons rfl (.cons rfl (.cons rfl (.cons rfl (.cons rfl (.cons rfl (.nil _))))))))))))))))))))))) ?_
        refine at_rowsub (i := 202) 201 rfl (fun y hy => hy) ?_
        refine cd_region ?_
        refine st (ev_move rfl) rfl rfl rfl ?_
        refine st (ev_add64 rfl rfl (by omega) (by omega)) rfl rfl rfl ?_
        refine st (ev_assign rfl) rfl rfl rfl ?_
        refine op_nil ?_
        exact at_again ((i + 1, (Rt.next (⟨v, x, Rt.kds r⟩ : Rt.RT) es[i].body es[i].ms).1.ver, (Rt.next (⟨v, x, Rt.kds r⟩ : Rt.RT) es[i].body es[i].ms).1.exp, r')) (⟨by show i + 1 ≤ es.length; omega, hx.1, hx.2.2, (by show Rt.RTok ⟨_, _, Rt.kds r'⟩; rw [hx.2.1]; exact Rt.next_ok _ _ _), (by show Rt.At _ _ _ ⟨_, _, Rt.kds r'⟩; rw [hx.2.1]; exact hi.2.2.2.2.1.step hlt hc26), fun y hy => .inr (hf y hy)⟩) (by show es.length - (i + 1) < es.length - i; omega) (.cons rfl (.cons rfl (.cons rfl (.cons rfl (.nil _))))) (.cons rfl (.cons rfl (.nil _))) (.cons rfl (.cons rfl (.cons rfl (.nil _))))
    ·
      refine wo (i := 9) rfl ?_
      refine st_alloc (h := 8) ty27 rfl rfl rfl (fun b8 => ?_)
      refine op_nil ?_
      refine ax_then ?_
      refine mxp_one (i := 5) (by decide +kernel) (fun w sw => CF.cons (lies_blk (sw.blk_eq (h := 2) rfl)) (sw.cf (.cons rfl (.nil _)))) ?_
      refine wo (i := 5) rfl ?_
      refine st_callR 202 has15 rfl (fun w1 sw => qnext_any es[i].pb es[i].mv v x r es[i].body es[i].ms w1 hr4 hi.2.2.1 hi.2.2.2.1 hxo.1 hxo.2.1 hxo.2.2.1 hxo.2.2.2 (fun y hy => sw.rd 201 _ rfl y hy) (Rt.ev_of_rows (fun y hy => sw.rd 25 _ rfl y hy) (List.getElem_mem hlt)).1 (Rt.ev_of_rows (fun y hy => sw.rd 25 _ rfl y hy) (List.getElem_mem hlt)).2.1 (Rt.ev_of_rows (fun y hy => sw.rd 25 _ rfl y hy) (List.getElem_mem hlt)).2.2) rfl rfl (fun r' hx hf => ?_)
      have hr4' := hx.1
      refine op_nil ?_
      refine ax_then ?_
      refine mxp (i := 6) rfl (by decide +kernel) (by decide +kernel) (by decide +kernel) rfl (fun w0 => ev_move rfl) rfl rfl (fun w sw => CF.cons (lies_blk (sw.blk_eq (h := 2) rfl)) (sw.cf (.cons rfl (.nil _)))) ?_
      refine mxp (i := 7) rfl (by decide +kernel) (by decide +kernel) (by decide +kernel) rfl (fun w0 => ev_extract rfl rfl) rfl rfl (fun w sw => CF.cons (lies_blk (sw.blk_eq (h := 2) rfl)) (sw.cf (.cons rfl (.nil _)))) ?_
      refine mxp (i := 8) rfl (by decide +kernel) (by decide +kernel) (by decide +kernel) rfl (fun w0 => ev_extract rfl rfl) rfl rfl (fun w sw => CF.cons (lies_blk (sw.blk_eq (h := 2) rfl)) (sw.cf (.cons rfl (.nil _)))) ?_
      refine mxp_one (i := 10) (by decide +kernel) (fun w sw => CF.cons (lies_blk (sw.blk_eq (h := 2) rfl)) (sw.cf (.cons rfl (.nil _)))) ?_
      refine wo (i := 10) rfl ?_
      refine st_store_all 8 ty27 rfl rfl rfl rfl (Rt.rootC_len _ _ (by omega)) (Rt.rootC_one _ _ hx.2.2) rfl rfl ?_
      refine op_nil ?_
      refine ax_then ?_
      refine mxp (i := 11) rfl (by decide +kernel) (by decide +kernel) (by decide +kernel) rfl (fun w0 => ev_assign rfl) rfl rfl (fun w sw => CF.cons (lies_blk (sw.blk_eq (h := 2) rfl)) (sw.cf (.cons rfl (.nil _)))) ?_
      refine mxp_done (by decide +kernel) (fun w sw => CF.cons (lies_blk (sw.blk_eq (h := 2) rfl)) (sw.cf (.cons rfl (.nil _)))) ?_
      refine ax_then ?_
      refine At.regs (L' := [(1, _), (2, _), (4, _), (7, _), (8, _), (9, _), (10, _), (11, _), (12, _), (13, _), (16, _), (17, _), (18, _), (19, _), (20, _), (21, _), (22, _), (23, _), (24, _)]) (.cons rfl (.cons rfl (.cons rfl (.cons rfl (.cons rfl (.cons rfl (.cons rfl (.cons rfl (.cons rfl (.cons rfl (.cons rfl (.cons rfl (.cons rfl (.cons rfl (.cons rfl (.cons rfl (.cons rfl (.cons rfl (.cons rfl (.nil _)))))))))))))))))))) ?_
      refine cd_seq ?_
      refine cd_seq ?_
      refine cd_region ?_
      refine st (ev_move rfl) rfl rfl rfl ?_
      refine st (ev_neq rfl rfl) rfl rfl rfl ?_
      refine op_nil ?_
      refine ax_then ?_
      refine At.regs (L' := [(1, _), (2, _), (4, _), (7, _), (8, _), (9, _), (10, _), (11, _), (12, _), (13, _), (16, _), (17, _), (18, _), (19, _), (20, _), (21, _), (22, _), (23, _), (24, _), (25, _), (26, _)]) (.cons rfl (.cons rfl (.cons rfl (.cons rfl (.cons rfl (.cons rfl (.cons rfl (.cons rfl (.cons rfl (.cons rfl (.cons rfl (.cons rfl (.cons rfl (.cons rfl (.cons rfl (.cons rfl (.cons rfl (.cons rfl (.cons rfl (.cons rfl (.cons rfl (.nil _)))))))))))))))))))))) ?_
      refine cd_if rfl (fun hc26 => ?_) (fun hc26 => ?_)
      ·
        refine cd_seq ?_
        refine cd_region ?_
        refine st (ld_blk_all (h := 2) ty27 rfl rfl rfl (Rt.rootC_len _ _ (by omega))) rfl rfl rfl ?_
        refine st (ev_move rfl) rfl rfl rfl ?_
        refine st (ev_move rfl) rfl rfl rfl ?_
        refine st_store_all 4 ty27 rfl rfl rfl rfl (Rt.rootC_len _ _ (by omega)) (Rt.rootC_one _ _ hi.2.2.1) rfl rfl ?_
        refine st (ev_assign rfl) rfl rfl rfl ?_
        refine st (ev_assign rfl) rfl rfl rfl ?_
        refine op_nil ?_
        refine ax_then ?_
        refine At.regs (L' := [(1, _), (2, _), (4, _), (5, _), (6, _), (7, _), (8, _), (9, _), (10, _), (11, _), (12, _), (13, _), (16, _), (17, _), (18, _), (19, _), (20, _), (21, _), (22, _), (23, _), (24, _), (25, _), (26, _), (27, _), (28, _), (29, _)]) (.cons rfl (.cons rfl (.cons rfl (.cons rfl (.cons rfl (.cons rfl (.cons rfl (.cons rfl (.cons rfl (.cons rfl (.cons rfl (.cons rfl (.cons rfl (.cons rfl (.cons rfl (.cons rfl (.cons rfl (.cons rfl (.cons rfl (.cons rfl (.cons rfl (.cons rfl (.cons rfl (.cons rfl (.cons rfl (.cons rfl (.nil _))))))))))))))))))))))))))) ?_
        refine cd_ret ?_
        refine ax_then_ret ?_
        refine ax_block_ret ?_
        refine ax_then_ret ?_
        refine ax_then_ret ?_
        refine ax_block_ret ?_
        refine ax_then_ret ?_
        have hd := hi.2.2.2.2.1.stop hlt hc26
        refine rt_cell_tmp2 (h0 := 4) (.inl rfl) Try.results20 ty27 rfl rfl rfl (Rt.rootC_len _ _ (by omega)) rfl rfl ?_
        exact fun w1 sw => ⟨r, ⟨hr4, by rw [hd], hi.2.2.1⟩, by rw [hd] <;> rfl, sw.gives (.nil _), fun y hy => ⟨sw.rd 201 _ rfl y hy, hi.2.2.2.2.2 y hy⟩⟩
      ·
        refine cd_skip ?_
        refine ax_then ?_
        refine At.regs (L' := [(1, _), (2, _), (4, _), (7, _), (8, _), (9, _), (10, _), (11, _), (12, _), (13, _), (16, _), (17, _), (18, _), (19, _), (20, _), (21, _), (22, _), (23, _), (24, _), (25, _), (26, _)]) (.cons rfl (.cons rfl (.cons rfl (.cons rfl (.cons rfl (.cons rfl (.cons rfl (.cons rfl (.cons rfl (.cons rfl (.cons rfl (.cons rfl (.cons rfl (.cons rfl (.cons rfl (.cons rfl (.cons rfl (.cons rfl (.cons rfl (.cons rfl (.cons rfl (.nil _)))))))))))))))))))))) ?_
        refine cd_region ?_
        refine st (ld_blk_all (h := 8) ty27 rfl rfl rfl (Rt.rootC_len _ _ (by omega))) rfl rfl rfl ?_
        refine st_store_all 2 ty27 rfl rfl rfl rfl (Rt.rootC_len _ _ (by omega)) (Rt.rootC_one _ _ hx.2.2) (Rt.rootC_len _ _ (by omega)) rfl ?_
        refine op_nil ?_
        refine ax_block ?_
        refine ax_then ?_
        refine At.regs (L' := [(1, _), (2, _), (4, _), (7, _), (8, _), (9, _), (10, _), (11, _), (12, _), (13, _), (16, _), (17, _), (18, _), (19, _), (20, _), (21, _), (22, _), (23, _), (24, _), (25, _), (26, _), (30, _)]) (.cons rfl (.cons rfl (.cons rfl (.cons rfl (.cons rfl (.cons rfl (.cons rfl (.cons rfl (.cons rfl (.cons rfl (.cons rfl (.cons rfl (.cons rfl (.cons rfl (.cons rfl (.cons rfl (.cons rfl (.cons rfl (.cons rfl (.cons rfl (.cons rfl (.cons rfl (.nil _))))))))))))))))))))))) ?_
        refine at_rowsub (i := 202) 201 rfl (fun y hy => hy) ?_
        refine cd_region ?_
        refine st (ev_move rfl) rfl rfl rfl ?_
        refine st (ev_add64 rfl rfl (by omega) (by omega)) rfl rfl rfl ?_
        refine st (ev_assign rfl) rfl rfl rfl ?_
        refine op_nil ?_
        exact at_again ((i + 1, (Rt.next (⟨v, x, Rt.kds r⟩ : Rt.RT) es[i].body es[i].ms).1.ver, (Rt.next (⟨v, x, Rt.kds r⟩ : Rt.RT) es[i].body es[i].ms).1.exp, r')) (⟨by show i + 1 ≤ es.length; omega, hx.1, hx.2.2, (by show Rt.RTok ⟨_, _, Rt.kds r'⟩; rw [hx.2.1]; exact Rt.next_ok _ _ _), (by show Rt.At _ _ _ ⟨_, _, Rt.kds r'⟩; rw [hx.2.1]; exact hi.2.2.2.2.1.step hlt hc26), fun y hy => .inr (hf y hy)⟩) (by show es.length - (i + 1) < es.length - i; omega) (.cons rfl (.cons rfl (.cons rfl (.cons rfl (.nil _))))) (.cons rfl (.cons rfl (.nil _))) (.cons rfl (.cons rfl (.cons rfl (.nil _))))
  ·
    obtain rfl : i = es.length := by omega
    have hd := hi.2.2.2.2.1.done
    refine cd_exit ?_
    refine ax_then_exit ?_
    refine ax_then_exit ?_
    refine ax_block_hit ?_
    refine ax_then ?_
    refine At.regs (L' := [(1, _), (2, _), (4, _)]) (.cons rfl (.cons rfl (.cons rfl (.nil _)))) ?_
    refine cd_seq ?_
    refine cd_region ?_
    refine st (ld_blk_all (h := 2) ty27 rfl rfl rfl (Rt.rootC_len _ _ (by omega))) rfl rfl rfl ?_
    refine st (ev_move rfl) rfl rfl rfl ?_
    refine st (ev_len_rd (h := 24) (n := es.length) Try.underlying43 rfl rfl (Rt.eflat_len es) (by decide)) rfl rfl rfl ?_
    refine st_store_all 4 ty27 rfl rfl rfl rfl (Rt.rootC_len _ _ (by omega)) (Rt.rootC_one _ _ hi.2.2.1) rfl rfl ?_
    refine st (ev_assign rfl) rfl rfl rfl ?_
    refine st (ev_assign rfl) rfl rfl rfl ?_
    refine op_nil ?_
    refine ax_then ?_
    refine At.regs (L' := [(4, _), (5, _), (6, _)]) (.cons rfl (.cons rfl (.cons rfl (.nil _)))) ?_
    refine cd_ret ?_
    refine rt_cell_tmp2 (h0 := 4) (.inl rfl) Try.results20 ty27 rfl rfl rfl (Rt.rootC_len _ _ (by omega)) rfl rfl ?_
    exact fun w1 sw => ⟨r, ⟨hr4, by rw [hd], hi.2.2.1⟩, by rw [hd] <;> rfl, sw.gives (.nil _), fun y hy => ⟨sw.rd 201 _ rfl y hy, hi.2.2.2.2.2 y hy⟩⟩
end Go.Proofs.Ytgfnmolbagilmaa

namespace Go.Proofs.Ytgfnmolbagilmaa
open Go Go.RowKit Fw
open Sha
open Ots
open Mk
set_option linter.unusedVariables false
set_option linter.unusedSimpArgs false
set_option maxRecDepth 20000 in
set_option maxHeartbeats 4000000 in
theorem large8_any (lv : Value) (es : List Rt.Ev) (w : World) (he : ∀ x, x ∈ es → Rt.EvOk x) (hel : es.length ≤ 4398046511104) (hlv : Rd w lv 2 (Rt.eflat es)) (hev : ∀ x, x ∈ es → Rt.EvRd w x) : Calls Try.prog 12 #[lv] w (Post (ι := Bool) w [] (fun _ => True) (fun b => .bool b) (fun _ => [])) := by
  refine calls_at (vs := [lv]) (X := []) (H := []) (F := [(25, .rows (Rt.erows es)), (24, .sl lv 2 (Rt.eflat es))]) 60 Try.func12 rfl rfl rfl (((Sat.start0 w).read (f := .sl lv 2 (Rt.eflat es)) 24 hlv off_nil).read (f := .rows (Rt.erows es)) 25 (Rt.erows_rd hev) off_nil) ?_
  refine cd_seq ?_
  refine cd_region ?_
  refine st (ev_assign rfl) rfl rfl rfl ?_
  refine op_nil ?_
  refine ax_then ?_
  refine At.regs (L' := [(0, _), (2, _)]) (.cons rfl (.cons rfl (.nil _))) ?_
  refine cd_seq ?_
  refine cd_region ?_
  refine st (ev_assign rfl) rfl rfl rfl ?_
  refine op_nil ?_
  refine ax_then ?_
  refine At.regs (L' := [(0, _), (2, _), (3, _)]) (.cons rfl (.cons rfl (.cons rfl (.nil _)))) ?_
  refine cd_seq ?_
  refine cd_seq ?_
  refine cd_region ?_
  refine st (ev_assign rfl) rfl rfl rfl ?_
  refine op_nil ?_
  refine ax_then ?_
  refine At.regs (L' := [(0, _), (2, _), (3, _), (4, _)]) (.cons rfl (.cons rfl (.cons rfl (.cons rfl (.nil _))))) ?_
  refine cd_block ?_
  refine cd_loop (ι := Nat × Int) (fun x => x.1 ≤ es.length) (fun x => es.length - x.1)
      (fun x => [(0, lv), (3, .int .i64 x.2), (4, .int .i64 (x.1 : Int))])
      (fun x => [])
      (fun x => [(24, .sl lv 2 (Rt.eflat es)), (25, .rows (Rt.erows es))])
      (0, _) (Nat.zero_le _) (.cons rfl (.cons rfl (.cons rfl (.nil _)))) (.nil _) (.cons rfl (.cons rfl (.nil _))) (fun x hi => ?_)
  obtain ⟨i, n⟩ := x
  dsimp only at hi ⊢
  have e0 : (i : Int).toNat = i := by omega
  refine cd_seq ?_
  refine cd_seq ?_
  refine cd_region ?_
  refine st (ev_move rfl) rfl rfl rfl ?_
  refine st (ev_move rfl) rfl rfl rfl ?_
  refine st (ev_len_rd (h := 24) (n := es.length) Try.underlying43 rfl rfl (Rt.eflat_len es) (by decide)) rfl rfl rfl ?_
  refine st (ev_lss rfl rfl) rfl rfl rfl ?_
  refine op_nil ?_
  refine ax_then ?_
  refine At.regs (L' := [(0, _), (3, _), (4, _), (6, _), (7, _), (8, _), (9, _)]) (.cons rfl (.cons rfl (.cons rfl (.cons rfl (.cons rfl (.cons rfl (.cons rfl (.nil _)))))))) ?_
  refine cd_if rfl (fun hc9 => ?_) (fun hc9 => ?_)
  ·
    have hlt : i < es.length := by omega
    have hxo := he es[i] (List.getElem_mem hlt)
    have ha := hxo.2.2.1
    have hmf := Qm.mflat_len ha
    have hml := hxo.2.2.2
    have hbl := hxo.1
    refine cd_skip ?_
    refine ax_then ?_
    refine At.regs (L' := [(0, _), (3, _), (4, _), (6, _), (7, _), (8, _), (9, _)]) (.cons rfl (.cons rfl (.cons rfl (.cons rfl (.cons rfl (.cons rfl (.cons rfl (.nil _)))))))) ?_
    refine cd_seq ?_
    refine cd_block ?_
    refine cd_seq ?_
    refine cd_region ?_
    refine st (ev_move rfl) rfl rfl rfl ?_
    refine st (ev_add rfl rfl) rfl rfl rfl ?_
    refine st (ev_move rfl) rfl rfl rfl ?_
    refine st (ev_move rfl) rfl rfl rfl ?_
    refine st (ev_indexAddr_rd (h := 24) (n := es.length) Try.underlying43 ty31 rfl rfl rfl (Rt.eflat_len es) (by decide) (by omega) (by omega)) rfl rfl rfl ?_
    refine st (ev_fieldIn (n := 0) (k := (i : Int).toNat * 2) Try.underlying31 rfl rfl rfl (fun w1 sw => sw.sl_rd (h := 24) rfl) (by rw [Rt.eflat_len, e0]; omega) (fun b off hx => ev_fieldAddr (b := _) Try.underlying31 (f := _) rfl ty28 (by decide) hx)) rfl rfl rfl ?_
    refine st (ld_rd1 (h := 24) (k := (i : Int).toNat * 2 + 0) ty28 rfl rfl rfl (by rw [e0]; exact (Rt.eflat_at hlt).1)) rfl rfl rfl ?_
    refine st (ev_len_of (sz := 1) (n := es[i].body.length) Try.underlying28 rfl (fun w1 sw => sw.row (i := 25) rfl (Rt.erows_pb hlt)) (by rw [ints_length, Nat.mul_one]) (by decide)) rfl rfl rfl ?_
    refine st (ev_add rfl rfl) rfl rfl rfl ?_
    refine st (ev_assign rfl) rfl rfl rfl ?_
    refine op_nil ?_
    refine ax_then ?_
    refine At.regs (L' := [(0, _), (3, _), (4, _), (6, _), (7, _), (8, _), (9, _), (12, _), (13, _), (14, _), (15, _), (16, _), (17, _), (18, _), (19, _), (20, _)]) (.cons rfl (.cons rfl (.cons rfl (.cons rfl (.cons rfl (.cons rfl (.cons rfl (.cons rfl (.cons rfl (.cons rfl (.cons rfl (.cons rfl (.cons rfl (.cons rfl (.cons rfl (.cons rfl (.nil _))))))))))))))))) ?_
    refine cd_seq ?_
    refine cd_region ?_
    refine st (ev_assign rfl) rfl rfl rfl ?_
    refine op_nil ?_
    refine ax_then ?_
    refine At.regs (L' := [(0, _), (3, _), (4, _), (5, _), (6, _), (7, _), (8, _), (9, _), (12, _), (13, _), (14, _), (15, _), (16, _), (17, _), (18, _), (19, _), (20, _)]) (.cons rfl (.cons rfl (.cons rfl (.cons rfl (.cons rfl (.cons rfl (.cons rfl (.cons rfl (.cons rfl (.cons rfl (.cons rfl (.cons rfl (.cons rfl (.cons rfl (.cons rfl (.cons rfl (.cons rfl (.nil _)))))))))))))))))) ?_
    refine cd_block ?_
    refine at_rowsl (i := 25) 21 rfl (Rt.erows_mv hlt) ?_
    refine at_rowsub (i := 25) 23 rfl (Rt.erows_ms hlt) ?_
    refine cd_loop (ι := Nat × Int) (fun y => y.1 ≤ es[i].ms.length) (fun y => es[i].ms.length - y.1)
        (fun y => [(0, lv), (3, .int .i64 y.2), (4, .int .i64 (i : Int)), (5, .int .i64 (y.1 : Int))])
        (fun y => [])
        (fun y => [(21, .sl es[i].mv 35 (Qm.mflat es[i].ms)), (23, .rows (Qm.mrows es[i].ms)), (24, .sl lv 2 (Rt.eflat es)), (25, .rows (Rt.erows es))])
        (0, _) (Nat.zero_le _) (.cons rfl (.cons rfl (.cons rfl (.cons rfl (.nil _))))) (.nil _) (.cons rfl (.cons rfl (.cons rfl (.cons rfl (.nil _))))) (fun y hi => ?_)
    obtain ⟨j, n2⟩ := y
    dsimp only at hi ⊢
    have e1 : (j : Int).toNat = j := by omega
    refine cd_seq ?_
    refine cd_seq ?_
    refine cd_region ?_
    refine st (ev_move rfl) rfl rfl rfl ?_
    refine st (ev_move rfl) rfl rfl rfl ?_
    refine st (ev_move rfl) rfl rfl rfl ?_
    refine st (ev_indexAddr_rd (h := 24) (n := es.length) Try.underlying43 ty31 rfl rfl rfl (Rt.eflat_len es) (by decide) (by omega) (by omega)) rfl rfl rfl ?_
    refine st (ev_fieldIn (n := 1) (k := (i : Int).toNat * 2) Try.underlying31 rfl rfl rfl (fun w1 sw => sw.sl_rd (h := 24) rfl) (by rw [Rt.eflat_len, e0]; omega) (fun b off hx => ev_fieldAddr (b := _) Try.underlying31 (f := _) rfl ty29 (by decide) hx)) rfl rfl rfl ?_
    refine st (ld_rd1 (h := 24) (k := (i : Int).toNat * 2 + 1) ty29 rfl rfl rfl (by rw [e0]; exact (Rt.eflat_at hlt).2)) rfl rfl rfl ?_
    refine st (ev_len_rd (h := 21) (n := es[i].ms.length) Try.underlying29 rfl rfl hmf (by decide)) rfl rfl rfl ?_
    refine st (ev_lss rfl rfl) rfl rfl rfl ?_
    refine op_nil ?_
    refine ax_then ?_
    refine At.regs (L' := [(0, _), (3, _), (4, _), (5, _), (21, _), (22, _), (23, _), (24, _), (25, _), (26, _), (27, _), (28, _)]) (.cons rfl (.cons rfl (.cons rfl (.cons rfl (.cons rfl (.cons rfl (.cons rfl (.cons rfl (.cons rfl (.cons rfl (.cons rfl (.cons rfl (.nil _))))))))))))) ?_
    refine cd_if rfl (fun hc28 => ?_) (fun hc28 => ?_)
    ·
      have hlt2 : j < es[i].ms.length := by omega
      have hxm := ha es[i].ms[j] (List.getElem_mem hlt2)
      refine cd_skip ?_
      refine ax_then ?_
      refine At.regs (L' := [(0, _), (3, _), (4, _), (5, _), (21, _), (22, _), (23, _), (24, _), (25, _), (26, _), (27, _), (28, _)]) (.cons rfl (.cons rfl (.cons rfl (.cons rfl (.cons rfl (.cons rfl (.cons rfl (.cons rfl (.cons rfl (.cons rfl (.cons rfl (.cons rfl (.nil _))))))))))))) ?_
      refine cd_seq ?_
      refine cd_block ?_
      refine cd_mix hmix ?_
      refine mx (i := 0) rfl (by decide +kernel) (by decide +kernel) (by decide +kernel) rfl (fun w0 => ev_move rfl) rfl rfl (Sub.refl _) ?_
      refine mx (i := 1) rfl (by decide +kernel) (by decide +kernel) (by decide +kernel) rfl (fun w0 => ev_move rfl) rfl rfl (Sub.refl _) ?_
      refine mx (i := 2) rfl (by decide +kernel) (by decide +kernel) (by decide +kernel) rfl (fun w0 => ev_move rfl) rfl rfl (Sub.refl _) ?_
      refine mx (i := 3) rfl (by decide +kernel) (by decide +kernel) (by decide +kernel) rfl (fun w0 => ev_indexAddr_rd (h := 24) (n := es.length) Try.underlying43 ty31 rfl rfl rfl (Rt.eflat_len es) (by decide) (by omega) (by omega)) rfl rfl (Sub.refl _) ?_
      refine mx (i := 4) rfl (by decide +kernel) (by decide +kernel) (by decide +kernel) rfl (fun w0 => ev_fieldIn (n := 1) (k := (i : Int).toNat * 2) Try.underlying31 rfl rfl rfl (fun w1 sw => sw.sl_rd (h := 24) rfl) (by rw [Rt.eflat_len, e0]; omega) (fun b off hx => ev_fieldAddr (b := _) Try.underlying31 (f := _) rfl ty29 (by decide) hx)) rfl rfl (Sub.refl _) ?_
      refine mx (i := 5) rfl (by decide +kernel) (by decide +kernel) (by decide +kernel) rfl (fun w0 => ld_rd1 (h := 24) (k := (i : Int).toNat * 2 + 1) ty29 rfl rfl rfl (by rw [e0]; exact (Rt.eflat_at hlt).2)) rfl rfl (Sub.refl _) ?_
      refine mx (i := 6) rfl (by decide +kernel) (by decide +kernel) (by decide +kernel) rfl (fun w0 => ev_move rfl) rfl rfl (Sub.refl _) ?_
      refine mx (i := 7) rfl (by decide +kernel) (by decide +kernel) (by decide +kernel) rfl (fun w0 => ev_indexAddr_rd (h := 21) (n := es[i].ms.length) Try.underlying29 ty82 rfl rfl rfl hmf (by decide) (by omega) (by omega)) rfl rfl (Sub.refl _) ?_
      refine mx (i := 8) rfl (by decide +kernel) (by decide +kernel) (by decide +kernel) rfl (fun w0 => ev_fieldIn (n := 32) (k := (j : Int).toNat * 35) Try.underlying82 rfl rfl rfl (fun w1 sw => sw.sl_rd (h := 21) rfl) (by rw [hmf, e1]; omega) (fun b off hx => ev_fieldAddr (b := _) Try.underlying82 (f := _) rfl ty80 (by decide) hx)) rfl rfl (Sub.refl _) ?_
      refine mx (i := 9) rfl (by decide +kernel) (by decide +kernel) (by decide +kernel) rfl (fun w0 => ev_fieldIn (n := 1) (k := (j : Int).toNat * 35 + 32) Try.underlying80 rfl rfl rfl (fun w1 sw => sw.sl_rd (h := 21) rfl) (by rw [hmf, e1]; omega) (fun b off hx => ev_fieldAddr (b := _) Try.underlying80 (f := _) rfl ty22 (by decide) hx)) rfl rfl (Sub.refl _) ?_
      refine mx (i := 10) rfl (by decide +kernel) (by decide +kernel) (by decide +kernel) rfl (fun w0 => ld_rd1 (h := 21) (k := (j : Int).toNat * 35 + 32 + 1) ty22 rfl rfl rfl (by rw [e1]; exact Qm.mflat_vc ha hlt2)) rfl rfl (Sub.refl _) ?_
      refine mx (i := 11) rfl (by decide +kernel) (by decide +kernel) (by decide +kernel) rfl (fun w0 => ev_len_of (sz := 32) (n := es[i].ms[j].cs.length) Try.underlying22 rfl (fun w1 sw => sw.row (i := 23) rfl (Qm.mrows_vc (List.getElem_mem hlt2))) (flat_len hxm.2.1) (by decide)) rfl rfl (Sub.refl _) ?_
      refine mx (i := 12) rfl (by decide +kernel) (by decide +kernel) (by decide +kernel) rfl (fun w0 => ev_mul rfl rfl) rfl rfl (Sub.refl _) ?_
      refine mx (i := 13) rfl (by decide +kernel) (by decide +kernel) (by decide +kernel) rfl (fun w0 => ev_add rfl rfl) rfl rfl (Sub.refl _) ?_
      refine mx (i := 14) rfl (by decide +kernel) (by decide +kernel) (by decide +kernel) rfl (fun w0 => ev_move rfl) rfl rfl (Sub.refl _) ?_
      refine mx (i := 15) rfl (by decide +kernel) (by decide +kernel) (by decide +kernel) rfl (fun w0 => ev_move rfl) rfl rfl (Sub.refl _) ?_
      refine mx (i := 16) rfl (by decide +kernel) (by decide +kernel) (by decide +kernel) rfl (fun w0 => ev_indexAddr_rd (h := 24) (n := es.length) Try.underlying43 ty31 rfl rfl rfl (Rt.eflat_len es) (by decide) (by omega) (by omega)) rfl rfl (Sub.refl _) ?_
      refine mx (i := 17) rfl (by decide +kernel) (by decide +kernel) (by decide +kernel) rfl (fun w0 => ev_fieldIn (n := 1) (k := (i : Int).toNat * 2) Try.underlying31 rfl rfl rfl (fun w1 sw => sw.sl_rd (h := 24) rfl) (by rw [Rt.eflat_len, e0]; omega) (fun b off hx => ev_fieldAddr (b := _) Try.underlying31 (f := _) rfl ty29 (by decide) hx)) rfl rfl (Sub.refl _) ?_
      refine mx (i := 18) rfl (by decide +kernel) (by decide +kernel) (by decide +kernel) rfl (fun w0 => ld_rd1 (h := 24) (k := (i : Int).toNat * 2 + 1) ty29 rfl rfl rfl (by rw [e0]; exact (Rt.eflat_at hlt).2)) rfl rfl (Sub.refl _) ?_
      refine mx (i := 19) rfl (by decide +kernel) (by decide +kernel) (by decide +kernel) rfl (fun w0 => ev_move rfl) rfl rfl (Sub.refl _) ?_
      refine mx (i := 20) rfl (by decide +kernel) (by decide +kernel) (by decide +kernel) rfl (fun w0 => ev_indexAddr_rd (h := 21) (n := es[i].ms.length) Try.underlying29 ty82 rfl rfl rfl hmf (by decide) (by omega) (by omega)) rfl rfl (Sub.refl _) ?_
      refine mx (i := 21) rfl (by decide +kernel) (by decide +kernel) (by decide +kernel) rfl (fun w0 => ev_fieldIn (n := 32) (k := (j : Int).toNat * 35) Try.underlying82 rfl rfl rfl (fun w1 sw => sw.sl_rd (h := 21) rfl) (by rw [hmf, e1]; omega) (fun b off hx => ev_fieldAddr (b := _) Try.underlying82 (f := _) rfl ty80 (by decide) hx)) rfl rfl (Sub.refl _) ?_
      refine mx (i := 22) rfl (by decide +kernel) (by decide +kernel) (by decide +kernel) rfl (fun w0 => ev_fieldIn (n := 2) (k := (j : Int).toNat * 35 + 32) Try.underlying80 rfl rfl rfl (fun w1 sw => sw.sl_rd (h := 21) rfl) (by rw [hmf, e1]; omega) (fun b off hx => ev_fieldAddr (b := _) Try.underlying80 (f := _) rfl ty22 (by decide) hx)) rfl rfl (Sub.refl _) ?_
      refine mx (i := 23) rfl (by decide +kernel) (by decide +kernel) (by decide +kernel) rfl (fun w0 => ld_rd1 (h := 21) (k := (j : Int).toNat * 35 + 32 + 2) ty22 rfl rfl rfl (by rw [e1]; exact Qm.mflat_vp ha hlt2)) rfl rfl (Sub.refl _) ?_
      refine mx (i := 24) rfl (by decide +kernel) (by decide +kernel) (by decide +kernel) rfl (fun w0 => ev_len_of (sz := 32) (n := es[i].ms[j].ps.length) Try.underlying22 rfl (fun w1 sw => sw.row (i := 23) rfl (Qm.mrows_vp (List.getElem_mem hlt2))) (flat_len hxm.2.2.1) (by decide)) rfl rfl (Sub.refl _) ?_
      refine mx (i := 25) rfl (by decide +kernel) (by decide +kernel) (by decide +kernel) rfl (fun w0 => ev_mul rfl rfl) rfl rfl (Sub.refl _) ?_
      refine mx (i := 26) rfl (by decide +kernel) (by decide +kernel) (by decide +kernel) rfl (fun w0 => ev_add rfl rfl) rfl rfl (Sub.refl _) ?_
      refine mx (i := 27) rfl (by decide +kernel) (by decide +kernel) (by decide +kernel) rfl (fun w0 => ev_assign rfl) rfl rfl (Sub.refl _) ?_
      refine mx_done (by decide +kernel) (Sub.refl _) ?_
      refine ax_block ?_
      refine ax_then ?_
      refine At.regs (L' := [(0, _), (3, _), (4, _), (5, _), (21, _), (22, _), (23, _), (24, _), (25, _), (26, _), (27, _), (28, _), (31, _), (32, _), (33, _), (34, _), (35, _), (36, _), (37, _), (38, _), (39, _), (40, _), (41, _), (42, _), (43, _), (44, _), (45, _), (46, _), (47, _), (48, _), (49, _), (50, _), (51, _), (52, _), (53, _), (54, _), (55, _), (56, _), (57, _)]) (.cons rfl (.cons rfl (.cons rfl (.cons rfl (.cons rfl (.cons rfl (.cons rfl (.cons rfl (.cons rfl (.cons rfl (.cons rfl (.cons rfl (.cons rfl (.cons rfl (.cons rfl (.cons rfl (.cons rfl (.cons rfl (.cons rfl (.cons rfl (.cons rfl (.cons rfl (.cons rfl (.cons rfl (.cons rfl (.cons rfl (.cons rfl (.cons rfl (.cons rfl (.cons rfl (.cons rfl (.cons rfl (.cons rfl (.cons rfl (.cons rfl (.cons rfl (.cons rfl (.cons rfl (.cons rfl (.nil _)))))))))))))))))))))))))))))))))))))))) ?_
      refine cd_region ?_
      refine st (ev_move rfl) rfl rfl rfl ?_
      refine st (ev_add64 rfl rfl (by omega) (by omega)) rfl rfl rfl ?_
      refine st (ev_assign rfl) rfl rfl rfl ?_
      refine op_nil ?_
      exact at_again ((j + 1, _)) (by show j + 1 ≤ es[i].ms.length; omega) (by omega) (.cons rfl (.cons rfl (.cons rfl (.cons rfl (.nil _))))) (.nil _) (.cons rfl (.cons rfl (.cons rfl (.cons rfl (.nil _)))))
    ·
      refine cd_exit ?_
      refine ax_then_exit ?_
      refine ax_then_exit ?_
      refine ax_block_hit ?_
      refine ax_block ?_
      refine ax_then ?_
      refine At.regs (L' := [(0, _), (3, _), (4, _), (5, _), (21, _), (22, _), (23, _), (24, _), (25, _), (26, _), (27, _), (28, _)]) (.cons rfl (.cons rfl (.cons rfl (.cons rfl (.cons rfl (.cons rfl (.cons rfl (.cons rfl (.cons rfl (.cons rfl (.cons rfl (.cons rfl (.nil _))))))))))))) ?_
      refine cd_region ?_
      refine st (ev_move rfl) rfl rfl rfl ?_
      refine st (ev_add64 rfl rfl (by omega) (by omega)) rfl rfl rfl ?_
      refine st (ev_assign rfl) rfl rfl rfl ?_
      refine op_nil ?_
      exact at_again ((i + 1, _)) (by show i + 1 ≤ es.length; omega) (by omega) (.cons rfl (.cons rfl (.cons rfl (.nil _)))) (.nil _) (.cons rfl (.cons rfl (.nil _)))
  ·
    refine cd_exit ?_
    refine ax_then_exit ?_
    refine ax_then_exit ?_
    refine ax_block_hit ?_
    refine ax_then ?_
    refine At.regs (L' := [(3, _)]) (.cons rfl (.nil _)) ?_
    refine cd_seq ?_
    refine cd_region ?_
    refine st (ev_move rfl) rfl rfl rfl ?_
    refine st (ev_gtr rfl rfl) rfl rfl rfl ?_
    refine st (ev_assign rfl) rfl rfl rfl ?_
    refine op_nil ?_
    refine ax_then ?_
    refine At.regs (L' := [(2, _)]) (.cons rfl (.nil _)) ?_
    refine cd_ret ?_
    refine rt_tmp (.inl rfl) Try.results12 rfl ?_
    exact fun w1 sw => ⟨_, trivial, rfl, sw.gives (.nil _)⟩
end Go.Proofs.Ytgfnmolbagilmaa

namespace Go.Proofs.Ytgfnmolbagilmaa.Rt
open Go Fw Sha Ky Go.Proofs.Ytgfnmolbagilmaa
set_option linter.unusedSimpArgs false
set_option linter.unusedVariables false
open Qm in
theorem whoNil (body : List Int) : ∀ ks, who body [] ks = [] := by
  intro ks
  have key : ∀ n, n ≤ ks.length → who body [] (ks.take n) = [] := by
    intro n
    induction n with
    | zero => intro _; rw [List.take_zero]; rfl
    | succ n ih =>
      intro hn
      rw [List.take_succ_eq_append_getElem (by omega), who_snoc, ih (by omega), if_neg]
      rintro ⟨_, x, hx, _⟩
      simp at hx
  have := key ks.length (Nat.le_refl _)
  rwa [List.take_length] at this
theorem meets_nil (body : List Int) (ks : List (List Int)) (need : Int) : ¬ meets body [] ks need := by
  rintro ⟨⟨_, _, _, h1, _⟩, h2⟩
  have h3 := whoNil body ks
  rw [h3] at h2
  simp at h2
  omega
theorem next_bare (r : RT) (b : List Int) : (next r b []).2 = 2 ∨ (next r b []).2 = 6 ∨ (next r b []).2 = 4 := by
  unfold next
  split
  · exact .inl rfl
  · split
    · exact .inr (.inl rfl)
    · rw [if_pos (.inl (meets_nil _ _ _))]
      exact .inr (.inr rfl)
theorem follow_bare (r : RT) {x : Ev} (hx : x.ms = []) : follow r [x] = (r, 0, (next r x.body []).2) := by
  have h := next_bare r x.body
  rw [follow, hx, if_pos (by rcases h with h | h | h <;> rw [h] <;> decide)]
theorem rt_eq2 {r : RT} {a l : List Rol} (h1 : kds l = r.roles) (h : kds a = r.roles) : (⟨r.ver, r.exp, kds a⟩ : RT) = ⟨r.ver, r.exp, kds l⟩ := by
  rw [h, h1]
end Go.Proofs.Ytgfnmolbagilmaa.Rt

namespace Go.Proofs.Ytgfnmolbagilmaa
open Go Go.RowKit Fw
open Sha
open Ots
open Mk
set_option linter.unusedVariables false
set_option linter.unusedSimpArgs false
theorem rd_nil0 {w : World} {sz : Nat} : Rd w (.slice none 0 0) sz [] := ⟨none, 0, 0, rfl, (Nat.zero_mul _).symm, Nat.le_refl _, fun _ => rfl, fun x hx => by cases hx⟩
set_option maxRecDepth 20000 in
set_option maxHeartbeats 8000000 in
theorem chainStays_any (ver exp : Int) (l : List Rt.Rol) (pb : Value) (body : List Int) (w : World) (hl : l.length = 4) (hone : ∀ x, x ∈ l → x.1.oneCell' = true) (hu : ∀ k, k ∈ Rt.kds l → H32 k.ks) (hkl : ∀ k, k ∈ Rt.kds l → k.ks.length ≤ 4398046511104) (h : ∀ y, y ∈ Rt.rowsR l → Rd w y.1 y.2.1 y.2.2) (hbl : body.length ≤ 140737488351232) (hB : Byt body) (hbody : Rd w pb 1 (ints .u8 body)) : Calls Try.prog 6 #[.agg (List.toArray (Rt.rootC ver exp l)), pb] w (PostV w (.bool true)) := by
  have hsb := rd_shape hbody
  refine calls_at (vs := [.agg (List.toArray (Rt.rootC ver exp l)), pb]) (X := []) (H := []) (F := [(200, .rows (Rt.rowsR (l))), (22, .sl (pb) 1 (ints .u8 (body)))]) 68 Try.func6 rfl rfl rfl ((Sat.rd0 22 hbody).read (f := .rows (Rt.rowsR (l))) 200 h off_nil) ?_
  refine cd_seq ?_
  refine cd_region ?_
  refine st_box (h := 2) rfl rfl rfl rfl (fun b2 => ?_)
  refine st (ev_assign rfl) rfl rfl rfl ?_
  refine op_nil ?_
  refine ax_then ?_
  refine At.regs (L' := [(1, _), (2, _), (4, _)]) (.cons rfl (.cons rfl (.cons rfl (.nil _)))) ?_
  refine cd_seq ?_
  refine cd_seq ?_
  refine at_freeze_blk (h := 2) (H' := []) 2 rfl (.nil _) rfl ?_
  refine cd_region ?_
  refine st (ld_mem_all (h := 2) ty27 rfl rfl rfl (Rt.rootC_len _ _ (by omega))) rfl rfl rfl ?_
  refine st_callv has13 rfl (fun w1 sw => many_any ver exp l w1 hl hu hkl (fun y hy => sw.rd 200 _ rfl y hy)) rfl rfl ?_
  refine st (ev_move rfl) rfl rfl rfl ?_
  refine at_split_if (i := 13) rfl (fun hg13 => ?_) (fun hg13 => ?_)
  ·
    refine st_skip rfl rfl rfl ?_
    refine st_skip rfl rfl rfl ?_
    refine st_skip rfl rfl rfl ?_
    refine st (ev_pick_t rfl rfl) rfl rfl rfl ?_
    refine op_nil ?_
    refine ax_then ?_
    refine At.regs (L' := [(1, _), (2, _), (4, _), (17, _)]) (.cons rfl (.cons rfl (.cons rfl (.cons rfl (.nil _))))) ?_
    refine cd_true rfl ?_
    refine cd_seq ?_
    refine cd_region ?_
    refine st (ev_assign rfl) rfl rfl rfl ?_
    refine op_nil ?_
    refine ax_then ?_
    refine At.regs (L' := [(1, _), (2, _), (4, _)]) (.cons rfl (.cons rfl (.cons rfl (.nil _)))) ?_
    refine cd_ret ?_
    refine ax_then_ret ?_
    refine rt_tmp (.inl rfl) Try.results6 rfl ?_
    exact fun w1 sw => ⟨rfl, sw.gives (.nil _)⟩
  ·
    refine st (ev_move rfl) rfl rfl rfl ?_
    refine st (ev_len_rdi (h := 22) Try.underlying28 rfl rfl) rfl rfl rfl ?_
    refine st (ev_gtr rfl rfl) rfl rfl rfl ?_
    refine st (ev_pick_f rfl rfl) rfl rfl rfl ?_
    refine op_nil ?_
    refine ax_then ?_
    refine At.regs (L' := [(1, _), (2, _), (4, _), (17, _)]) (.cons rfl (.cons rfl (.cons rfl (.cons rfl (.nil _))))) ?_
    refine cd_if rfl (fun hc17 => ?_) (fun hc17 => ?_)
    ·
      refine cd_seq ?_
      refine cd_region ?_
      refine st (ev_assign rfl) rfl rfl rfl ?_
      refine op_nil ?_
      refine ax_then ?_
      refine At.regs (L' := [(1, _), (2, _), (4, _)]) (.cons rfl (.cons rfl (.cons rfl (.nil _)))) ?_
      refine cd_ret ?_
      refine ax_then_ret ?_
      refine rt_tmp (.inl rfl) Try.results6 rfl ?_
      exact fun w1 sw => ⟨rfl, sw.gives (.nil _)⟩
    ·
      have hk : Rt.RTok (⟨ver, exp, Rt.kds l⟩ : Rt.RT) := ⟨by show (Rt.kds l).length = 4; rw [Rt.kds_len]; exact hl, hu, fun k hk => by have h1 : k.ks.length ≤ Rt.cntR (Rt.kds l) := Rt.cntR_le hk; omega⟩
      refine cd_skip ?_
      refine ax_then ?_
      refine At.regs (L' := [(1, _), (2, _), (4, _)]) (.cons rfl (.cons rfl (.cons rfl (.nil _)))) ?_
      refine cd_seq ?_
      refine cd_region ?_
      refine st (ld_mem_all (h := 2) ty27 rfl rfl rfl (Rt.rootC_len _ _ (by omega))) rfl rfl rfl ?_
      refine st (ev_move rfl) rfl rfl rfl ?_
      refine st (ev_build_struct ty31 rfl pl31 rfl ((fill_put (i := 0) (off := 0) (n := 1) (vs := [pb]) rfl hsb.1 rfl (Nat.le_of_ble_eq_true rfl)).trans fill_nil)) rfl rfl rfl ?_
      refine at_eq (i := 21) (v' := .agg (List.toArray [pb, .slice none 0 0])) rfl rfl ?_
      refine st_bs1 (h := 22) (cs := [pb, .slice none 0 0]) Try.underlying43 ty31 rfl rfl rfl (by decide) (by decide) rfl rfl (fun b22 => ?_)
      refine st_callE 202 200 has19 rfl rfl (fun w1 sw => follow_any ver exp l (.slice (some ⟨b22, 0, none⟩) 1 1) [(⟨pb, .slice none 0 0, body, []⟩ : Rt.Ev)] w1 hl hone hk (fun y hy => sw.rd 200 _ rfl y hy) (fun x hx => by rw [List.mem_singleton.1 hx]; exact ⟨by show body.length ≤ _; omega, hB, (fun m hm => by cases hm), Nat.zero_le _⟩) (by simp) (sw.own_rd (h := 22) rfl) (fun x hx => by rw [List.mem_singleton.1 hx]; exact ⟨(sw.sl_rd (h := 22) rfl), rd_nil0, fun m hm => by cases hm⟩)) rfl rfl (fun l1 hx23 hf23 => ?_)
      have hst : Rt.follow (⟨ver, exp, Rt.kds l⟩ : Rt.RT) [(⟨pb, .slice none 0 0, body, []⟩ : Rt.Ev)] = ((⟨ver, exp, Rt.kds l⟩ : Rt.RT), 0, (Rt.next (⟨ver, exp, Rt.kds l⟩ : Rt.RT) body []).2) := Rt.follow_bare _ rfl
      have hnb := Rt.next_bare (⟨ver, exp, Rt.kds l⟩ : Rt.RT) body
      rw [hst] at hx23
      have hl41 := hx23.1
      refine at_eq (i := 23) (v' := .tuple #[.agg (List.toArray (Rt.rootC ver exp l1)), .int .i64 0, .int .i64 (Rt.next (⟨ver, exp, Rt.kds l⟩ : Rt.RT) body []).2]) rfl (by rw [hst]; rfl) ?_
      refine st (ev_move rfl) rfl rfl rfl ?_
      refine st (ev_extract rfl rfl) rfl rfl rfl ?_
      refine st (ev_extract rfl rfl) rfl rfl rfl ?_
      refine st (ev_extract rfl rfl) rfl rfl rfl ?_
      refine st_alloc (h := 5) ty27 rfl rfl rfl (fun b5 => ?_)
      refine st_store_all 5 ty27 rfl rfl rfl rfl (Rt.rootC_len _ _ (by omega)) (Rt.rootC_one _ _ hx23.2.2) rfl rfl ?_
      refine st (ev_assign rfl) rfl rfl rfl ?_
      refine st (ev_assign rfl) rfl rfl rfl ?_
      refine op_nil ?_
      refine ax_then ?_
      refine At.regs (L' := [(2, _), (4, _), (5, _), (6, _), (7, _)]) (.cons rfl (.cons rfl (.cons rfl (.cons rfl (.cons rfl (.nil _)))))) ?_
      refine cd_seq ?_
      refine at_freeze_blk (h := 5) (H' := []) 5 rfl (.nil _) rfl ?_
      refine cd_region ?_
      refine st (ld_mem_all (h := 2) ty27 rfl rfl rfl (Rt.rootC_len _ _ (by omega))) rfl rfl rfl ?_
      refine st_callE 203 200 has19 rfl rfl (fun w1 sw => follow_any ver exp l (.slice none 0 0) [] w1 hl hone hk (fun y hy => sw.rd 200 _ rfl y hy) (fun x hx => by cases hx) (by simp) rd_nil0 (fun x hx => by cases hx)) rfl rfl (fun l2 hx29 hf29 => ?_)
      have hl42 := hx29.1
      refine at_eq (i := 29) (v' := .tuple #[.agg (List.toArray (Rt.rootC ver exp l2)), .int .i64 0, .int .i64 0]) rfl rfl ?_
      refine st (ev_move rfl) rfl rfl rfl ?_
      refine st (ev_extract rfl rfl) rfl rfl rfl ?_
      refine st (ev_extract rfl rfl) rfl rfl rfl ?_
      refine st (ev_extract rfl rfl) rfl rfl rfl ?_
      refine st_alloc (h := 8) ty27 rfl rfl rfl (fun b8 => ?_)
      refine st_store_all 8 ty27 rfl rfl rfl rfl (Rt.rootC_len _ _ (by omega)) (Rt.rootC_one _ _ hx29.2.2) rfl rfl ?_
      refine st (ev_assign rfl) rfl rfl rfl ?_
      refine st (ev_assign rfl) rfl rfl rfl ?_
      refine op_nil ?_
      refine ax_then ?_
      refine At.regs (L' := [(2, _), (4, _), (5, _), (6, _), (7, _), (8, _), (9, _), (10, _)]) (.cons rfl (.cons rfl (.cons rfl (.cons rfl (.cons rfl (.cons rfl (.cons rfl (.cons rfl (.nil _))))))))) ?_
      refine cd_seq ?_
      refine at_freeze_blk (h := 8) (H' := []) 8 rfl (.nil _) rfl ?_
      refine cd_region ?_
      refine st (ld_mem_all (h := 5) ty27 rfl rfl rfl (Rt.rootC_len _ _ (by omega))) rfl rfl rfl ?_
      refine st (ld_mem_all (h := 2) ty27 rfl rfl rfl (Rt.rootC_len _ _ (by omega))) rfl rfl rfl ?_
      refine st_callv has16 rfl (fun w1 sw => sameroot_any ver exp ver exp l1 l w1 hl41 hl (by rw [hx23.2.1]; exact hk) hk (fun y hy => sw.rd 202 _ rfl y hy) (fun y hy => sw.rd 200 _ rfl y hy)) rfl rfl ?_
      refine st (ev_move rfl) rfl rfl rfl ?_
      refine at_eq (i := 36) (v' := .bool true) rfl (by simp only [Value.bool.injEq, decide_eq_true_eq, decide_eq_false_iff_not]; exact congrArg (Rt.RT.mk ver exp) hx23.2.1) ?_
      refine st (ev_move rfl) rfl rfl rfl ?_
      refine st (ev_eql rfl rfl) rfl rfl rfl ?_
      refine st (ev_pick_t rfl rfl) rfl rfl rfl ?_
      refine st (ev_move rfl) rfl rfl rfl ?_
      refine at_eq (i := 40) (v' := .bool true) rfl (by rw [decide_eq_true rfl]) ?_
      refine st (ev_move rfl) rfl rfl rfl ?_
      refine st (ev_eql rfl rfl) rfl rfl rfl ?_
      refine st (ev_move rfl) rfl rfl rfl ?_
      refine at_split_if (i := 43) rfl (fun hg43 => ?_) (fun hg43 => ?_)
      ·
        refine st_skip rfl rfl rfl ?_
        refine st_skip rfl rfl rfl ?_
        refine st (ev_pick_t rfl rfl) rfl rfl rfl ?_
        refine st (ev_move rfl) rfl rfl rfl ?_
        refine st_skip rfl rfl rfl ?_
        refine st_skip rfl rfl rfl ?_
        refine st (ev_pick_t rfl rfl) rfl rfl rfl ?_
        refine st (ev_pick_t rfl rfl) rfl rfl rfl ?_
        refine st (ev_move rfl) rfl rfl rfl ?_
        refine st (ld_mem_all (h := 8) ty27 rfl rfl rfl (Rt.rootC_len _ _ (by omega))) rfl rfl rfl ?_
        refine st (ld_mem_all (h := 2) ty27 rfl rfl rfl (Rt.rootC_len _ _ (by omega))) rfl rfl rfl ?_
        refine st_callv has16 rfl (fun w1 sw => sameroot_any ver exp ver exp l2 l w1 hl42 hl (by rw [hx29.2.1]; exact hk) hk (fun y hy => sw.rd 203 _ rfl y hy) (fun y hy => sw.rd 200 _ rfl y hy)) rfl rfl ?_
        refine st (ev_pick_t rfl rfl) rfl rfl rfl ?_
        refine st (ev_move rfl) rfl rfl rfl ?_
        refine at_eq (i := 57) (v' := .bool true) rfl (by simp only [Value.bool.injEq, decide_eq_true_eq, decide_eq_false_iff_not]; exact congrArg (Rt.RT.mk ver exp) hx29.2.1) ?_
        refine st (ev_move rfl) rfl rfl rfl ?_
        refine st (ev_eql rfl rfl) rfl rfl rfl ?_
        refine st (ev_pick_t rfl rfl) rfl rfl rfl ?_
        refine st (ev_move rfl) rfl rfl rfl ?_
        refine at_eq (i := 61) (v' := .bool true) rfl (by rw [decide_eq_true rfl]) ?_
        refine st (ev_move rfl) rfl rfl rfl ?_
        refine st (ev_eql rfl rfl) rfl rfl rfl ?_
        refine st (ev_pick_t rfl rfl) rfl rfl rfl ?_
        refine st (ev_move rfl) rfl rfl rfl ?_
        refine at_eq (i := 65) (v' := .bool true) rfl (by rw [decide_eq_true rfl]) ?_
        refine st_callv has18 rfl (fun w1 sw => known8_any w1) rfl rfl ?_
        refine st (ev_pick_t rfl rfl) rfl rfl rfl ?_
        refine st (ev_assign rfl) rfl rfl rfl ?_
        refine op_nil ?_
        refine ax_then ?_
        refine At.regs (L' := [(4, _)]) (.cons rfl (.nil _)) ?_
        refine cd_ret ?_
        refine rt_tmp (.inl rfl) Try.results6 rfl ?_
        exact fun w1 sw => ⟨rfl, sw.gives (.nil _)⟩
      ·
        refine st (ev_move rfl) rfl rfl rfl ?_
        refine st (ev_eql rfl rfl) rfl rfl rfl ?_
        refine st (ev_pick_f rfl rfl) rfl rfl rfl ?_
        refine st (ev_move rfl) rfl rfl rfl ?_
        refine at_split_if (i := 47) rfl (fun hg47 => ?_) (fun hg47 => ?_)
        ·
          refine st_skip rfl rfl rfl ?_
          refine st_skip rfl rfl rfl ?_
          refine st (ev_pick_t rfl rfl) rfl rfl rfl ?_
          refine st (ev_pick_t rfl rfl) rfl rfl rfl ?_
          refine st (ev_move rfl) rfl rfl rfl ?_
          refine st (ld_mem_all (h := 8) ty27 rfl rfl rfl (Rt.rootC_len _ _ (by omega))) rfl rfl rfl ?_
          refine st (ld_mem_all (h := 2) ty27 rfl rfl rfl (Rt.rootC_len _ _ (by omega))) rfl rfl rfl ?_
          refine st_callv has16 rfl (fun w1 sw => sameroot_any ver exp ver exp l2 l w1 hl42 hl (by rw [hx29.2.1]; exact hk) hk (fun y hy => sw.rd 203 _ rfl y hy) (fun y hy => sw.rd 200 _ rfl y hy)) rfl rfl ?_
          refine st (ev_pick_t rfl rfl) rfl rfl rfl ?_
          refine st (ev_move rfl) rfl rfl rfl ?_
          refine at_eq (i := 57) (v' := .bool true) rfl (by simp only [Value.bool.injEq, decide_eq_true_eq, decide_eq_false_iff_not]; exact congrArg (Rt.RT.mk ver exp) hx29.2.1) ?_
          refine st (ev_move rfl) rfl rfl rfl ?_
          refine st (ev_eql rfl rfl) rfl rfl rfl ?_
          refine st (ev_pick_t rfl rfl) rfl rfl rfl ?_
          refine st (ev_move rfl) rfl rfl rfl ?_
          refine at_eq (i := 61) (v' := .bool true) rfl (by rw [decide_eq_true rfl]) ?_
          refine st (ev_move rfl) rfl rfl rfl ?_
          refine st (ev_eql rfl rfl) rfl rfl rfl ?_
          refine st (ev_pick_t rfl rfl) rfl rfl rfl ?_
          refine st (ev_move rfl) rfl rfl rfl ?_
          refine at_eq (i := 65) (v' := .bool true) rfl (by rw [decide_eq_true rfl]) ?_
          refine st_callv has18 rfl (fun w1 sw => known8_any w1) rfl rfl ?_
          refine st (ev_pick_t rfl rfl) rfl rfl rfl ?_
          refine st (ev_assign rfl) rfl rfl rfl ?_
          refine op_nil ?_
          refine ax_then ?_
          refine At.regs (L' := [(4, _)]) (.cons rfl (.nil _)) ?_
          refine cd_ret ?_
          refine rt_tmp (.inl rfl) Try.results6 rfl ?_
          exact fun w1 sw => ⟨rfl, sw.gives (.nil _)⟩
        ·
          refine st (ev_move rfl) rfl rfl rfl ?_
          refine st (ev_eql rfl rfl) rfl rfl rfl ?_
          refine st (ev_pick_f rfl rfl) rfl rfl rfl ?_
          refine st (ev_pick_t rfl rfl) rfl rfl rfl ?_
          refine st (ev_move rfl) rfl rfl rfl ?_
          refine at_eq (i := 52) (v' := .bool true) rfl (by simp only [Value.bool.injEq, decide_eq_true_eq, decide_eq_false_iff_not]; exact (hnb.resolve_left hg43).resolve_left hg47) ?_
          refine st (ld_mem_all (h := 8) ty27 rfl rfl rfl (Rt.rootC_len _ _ (by omega))) rfl rfl rfl ?_
          refine st (ld_mem_all (h := 2) ty27 rfl rfl rfl (Rt.rootC_len _ _ (by omega))) rfl rfl rfl ?_
          refine st_callv has16 rfl (fun w1 sw => sameroot_any ver exp ver exp l2 l w1 hl42 hl (by rw [hx29.2.1]; exact hk) hk (fun y hy => sw.rd 203 _ rfl y hy) (fun y hy => sw.rd 200 _ rfl y hy)) rfl rfl ?_
          refine st (ev_pick_t rfl rfl) rfl rfl rfl ?_
          refine st (ev_move rfl) rfl rfl rfl ?_
          refine at_eq (i := 57) (v' := .bool true) rfl (by simp only [Value.bool.injEq, decide_eq_true_eq, decide_eq_false_iff_not]; exact congrArg (Rt.RT.mk ver exp) hx29.2.1) ?_
          refine st (ev_move rfl) rfl rfl rfl ?_
          refine st (ev_eql rfl rfl) rfl rfl rfl ?_
          refine st (ev_pick_t rfl rfl) rfl rfl rfl ?_
          refine st (ev_move rfl) rfl rfl rfl ?_
          refine at_eq (i := 61) (v' := .bool true) rfl (by rw [decide_eq_true rfl]) ?_
          refine st (ev_move rfl) rfl rfl rfl ?_
          refine st (ev_eql rfl rfl) rfl rfl rfl ?_
          refine st (ev_pick_t rfl rfl) rfl rfl rfl ?_
          refine st (ev_move rfl) rfl rfl rfl ?_
          refine at_eq (i := 65) (v' := .bool true) rfl (by rw [decide_eq_true rfl]) ?_
          refine st_callv has18 rfl (fun w1 sw => known8_any w1) rfl rfl ?_
          refine st (ev_pick_t rfl rfl) rfl rfl rfl ?_
          refine st (ev_assign rfl) rfl rfl rfl ?_
          refine op_nil ?_
          refine ax_then ?_
          refine At.regs (L' := [(4, _)]) (.cons rfl (.nil _)) ?_
          refine cd_ret ?_
          refine rt_tmp (.inl rfl) Try.results6 rfl ?_
          exact fun w1 sw => ⟨rfl, sw.gives (.nil _)⟩
set_option maxRecDepth 20000 in
set_option maxHeartbeats 8000000 in
theorem chainNext_any (pb mv : Value) (ver exp now : Int) (l : List Rt.Rol) (body : List Int) (ms : List Qm.Mark) (w : World) (hl : l.length = 4) (hone : ∀ x, x ∈ l → x.1.oneCell' = true) (hu : ∀ k, k ∈ Rt.kds l → H32 k.ks) (hkl : ∀ k, k ∈ Rt.kds l → k.ks.length ≤ 4398046511104) (h : ∀ y, y ∈ Rt.rowsR l → Rd w y.1 y.2.1 y.2.2) (hbl : body.length ≤ 140737488351232) (hB : Byt body) (ha : Qm.AOk ms) (hml : ms.length ≤ 2000000000000) (hbody : Rd w pb 1 (ints .u8 body)) (hm : Rd w mv 35 (Qm.mflat ms)) (hmr : ∀ x, x ∈ ms → Qm.MRd w x) : Calls Try.prog 3 #[.agg (List.toArray (Rt.rootC ver exp l)), .agg (List.toArray [pb, mv]), .int .i64 now] w (PostV w (.bool true)) := by
  have hsb := rd_shape hbody
  have hsm := rd_shape hm
  refine calls_at (vs := [.agg (List.toArray (Rt.rootC ver exp l)), .agg (List.toArray [pb, mv]), .int .i64 now]) (X := []) (H := []) (F := [(200, .rows (Rt.rowsR (l))), (22, .sl (pb) 1 (ints .u8 (body))), (21, .sl (mv) 35 (Qm.mflat (ms)))]) 51 Try.func3 rfl rfl rfl (((Sat.rd0 21 hm).more 22 hbody).read (f := .rows (Rt.rowsR (l))) 200 h off_nil) ?_
  refine cd_seq ?_
  refine cd_region ?_
  refine st_box (h := 3) rfl rfl rfl rfl (fun b3 => ?_)
  refine st_box (h := 4) rfl rfl rfl rfl (fun b4 => ?_)
  refine st (ev_assign rfl) rfl rfl rfl ?_
  refine op_nil ?_
  refine ax_then ?_
  refine At.regs (L' := [(2, _), (3, _), (4, _), (6, _)]) (.cons rfl (.cons rfl (.cons rfl (.cons rfl (.nil _))))) ?_
  refine cd_seq ?_
  refine cd_seq ?_
  refine at_freeze_blk (h := 3) (H' := [(4, _)]) 3 rfl (.cons rfl (.nil _)) rfl ?_
  refine at_freeze_blk (h := 4) (H' := []) 4 rfl (.nil _) rfl ?_
  refine cd_region ?_
  refine st (ld_mem_all (h := 4) ty31 rfl rfl rfl rfl) rfl rfl rfl ?_
  refine st_bs1 (h := 12) (cs := [pb, mv]) Try.underlying43 ty31 rfl rfl rfl (by decide) (by decide) rfl rfl (fun b12 => ?_)
  refine st_call has12 rfl (fun w1 sw => large8_any (.slice (some ⟨b12, 0, none⟩) 1 1) [(⟨pb, mv, body, ms⟩ : Rt.Ev)] w1 (fun x hx => by rw [List.mem_singleton.1 hx]; exact ⟨hbl, hB, ha, hml⟩) (by simp) (sw.own_rd (h := 12) rfl) (fun x hx => by rw [List.mem_singleton.1 hx]; exact ⟨(sw.sl_rd (h := 22) rfl), (sw.sl_rd (h := 21) rfl), (fun x hx => (Qm.Keeps.of sw).mrd (hmr x hx))⟩)) nil_all rfl rfl (fun bl _ => ?_)
  refine st (ev_move rfl) rfl rfl rfl ?_
  refine at_split (i := 14) rfl (fun hg14 => ?_) (fun hg14 => ?_)
  ·
    refine st_skip rfl rfl rfl ?_
    refine st_skip rfl rfl rfl ?_
    refine st (ev_pick_t rfl rfl) rfl rfl rfl ?_
    refine op_nil ?_
    refine ax_then ?_
    refine At.regs (L' := [(2, _), (3, _), (4, _), (6, _), (17, _)]) (.cons rfl (.cons rfl (.cons rfl (.cons rfl (.cons rfl (.nil _)))))) ?_
    refine cd_true rfl ?_
    refine cd_seq ?_
    refine cd_region ?_
    refine st (ev_assign rfl) rfl rfl rfl ?_
    refine op_nil ?_
    refine ax_then ?_
    refine At.regs (L' := [(2, _), (3, _), (4, _), (6, _)]) (.cons rfl (.cons rfl (.cons rfl (.cons rfl (.nil _))))) ?_
    refine cd_ret ?_
    refine ax_then_ret ?_
    refine rt_tmp (.inl rfl) Try.results3 rfl ?_
    exact fun w1 sw => ⟨rfl, sw.gives (.nil _)⟩
  ·
    refine st (ld_mem_all (h := 3) ty27 rfl rfl rfl (Rt.rootC_len _ _ (by omega))) rfl rfl rfl ?_
    refine st_callv has13 rfl (fun w1 sw => many_any ver exp l w1 hl hu hkl (fun y hy => sw.rd 200 _ rfl y hy)) rfl rfl ?_
    refine st (ev_pick_f rfl rfl) rfl rfl rfl ?_
    refine op_nil ?_
    refine ax_then ?_
    refine At.regs (L' := [(2, _), (3, _), (4, _), (6, _), (17, _)]) (.cons rfl (.cons rfl (.cons rfl (.cons rfl (.cons rfl (.nil _)))))) ?_
    refine cd_if rfl (fun hc17 => ?_) (fun hc17 => ?_)
    ·
      refine cd_seq ?_
      refine cd_region ?_
      refine st (ev_assign rfl) rfl rfl rfl ?_
      refine op_nil ?_
      refine ax_then ?_
      refine At.regs (L' := [(2, _), (3, _), (4, _), (6, _)]) (.cons rfl (.cons rfl (.cons rfl (.cons rfl (.nil _))))) ?_
      refine cd_ret ?_
      refine ax_then_ret ?_
      refine rt_tmp (.inl rfl) Try.results3 rfl ?_
      exact fun w1 sw => ⟨rfl, sw.gives (.nil _)⟩
    ·
      have hk : Rt.RTok (⟨ver, exp, Rt.kds l⟩ : Rt.RT) := ⟨by show (Rt.kds l).length = 4; rw [Rt.kds_len]; exact hl, hu, fun k hk => by have h1 : k.ks.length ≤ Rt.cntR (Rt.kds l) := Rt.cntR_le hk; omega⟩
      refine cd_skip ?_
      refine ax_then ?_
      refine At.regs (L' := [(2, _), (3, _), (4, _), (6, _)]) (.cons rfl (.cons rfl (.cons rfl (.cons rfl (.nil _))))) ?_
      refine cd_seq ?_
      refine cd_region ?_
      refine st (ld_mem_all (h := 3) ty27 rfl rfl rfl (Rt.rootC_len _ _ (by omega))) rfl rfl rfl ?_
      refine st (ld_mem_all (h := 4) ty31 rfl rfl rfl rfl) rfl rfl rfl ?_
      refine st_callR 201 has14 rfl (fun w1 sw => next_any pb mv ver exp l body ms w1 hl hone hk hbl hB ha hml (fun y hy => sw.rd 200 _ rfl y hy) (sw.sl_rd (h := 22) rfl) (sw.sl_rd (h := 21) rfl) (fun x hx => (Qm.Keeps.of sw).mrd (hmr x hx))) rfl rfl (fun l1 hx21 hf21 => ?_)
      have hl421 := hx21.1
      refine st (ev_move rfl) rfl rfl rfl ?_
      refine st (ev_extract rfl rfl) rfl rfl rfl ?_
      refine st (ev_extract rfl rfl) rfl rfl rfl ?_
      refine st_alloc (h := 7) ty27 rfl rfl rfl (fun b7 => ?_)
      refine st_store_all 7 ty27 rfl rfl rfl rfl (Rt.rootC_len _ _ (by omega)) (Rt.rootC_one _ _ hx21.2.2) rfl rfl ?_
      refine st (ev_assign rfl) rfl rfl rfl ?_
      refine op_nil ?_
      refine ax_then ?_
      refine At.regs (L' := [(2, _), (3, _), (4, _), (6, _), (7, _), (8, _)]) (.cons rfl (.cons rfl (.cons rfl (.cons rfl (.cons rfl (.cons rfl (.nil _))))))) ?_
      refine cd_seq ?_
      refine at_freeze_blk (h := 7) (H' := []) 7 rfl (.nil _) rfl ?_
      refine cd_region ?_
      refine st (ld_mem_all (h := 3) ty27 rfl rfl rfl (Rt.rootC_len _ _ (by omega))) rfl rfl rfl ?_
      refine st (ld_mem_all (h := 4) ty31 rfl rfl rfl rfl) rfl rfl rfl ?_
      refine st_callR 202 has15 rfl (fun w1 sw => qnext_any pb mv ver exp l body ms w1 hl hone hk hbl hB ha hml (fun y hy => sw.rd 200 _ rfl y hy) (sw.sl_rd (h := 22) rfl) (sw.sl_rd (h := 21) rfl) (fun x hx => (Qm.Keeps.of sw).mrd (hmr x hx))) rfl rfl (fun l2 hx27 hf27 => ?_)
      have hl427 := hx27.1
      refine st (ev_move rfl) rfl rfl rfl ?_
      refine st (ev_extract rfl rfl) rfl rfl rfl ?_
      refine st (ev_extract rfl rfl) rfl rfl rfl ?_
      refine st_alloc (h := 9) ty27 rfl rfl rfl (fun b9 => ?_)
      refine st_store_all 9 ty27 rfl rfl rfl rfl (Rt.rootC_len _ _ (by omega)) (Rt.rootC_one _ _ hx27.2.2) rfl rfl ?_
      refine st (ev_assign rfl) rfl rfl rfl ?_
      refine op_nil ?_
      refine ax_then ?_
      refine At.regs (L' := [(2, _), (3, _), (6, _), (7, _), (8, _), (9, _), (10, _)]) (.cons rfl (.cons rfl (.cons rfl (.cons rfl (.cons rfl (.cons rfl (.cons rfl (.nil _)))))))) ?_
      refine cd_seq ?_
      refine at_freeze_blk (h := 9) (H' := []) 9 rfl (.nil _) rfl ?_
      refine cd_mix hmix ?_
      refine mx (i := 0) rfl (by decide +kernel) (by decide +kernel) (by decide +kernel) rfl (fun w0 => ld_mem_all (h := 7) ty27 rfl rfl rfl (Rt.rootC_len _ _ (by omega))) rfl rfl (Sub.refl _) ?_
      refine mx (i := 1) rfl (by decide +kernel) (by decide +kernel) (by decide +kernel) rfl (fun w0 => ld_mem_all (h := 9) ty27 rfl rfl rfl (Rt.rootC_len _ _ (by omega))) rfl rfl (Sub.refl _) ?_
      refine mx_one (i := 2) (by decide +kernel) (Sub.refl _) ?_
      refine wo (i := 2) rfl ?_
      refine st_callv has16 rfl (fun w1 sw => sameroot_any (Rt.next (⟨ver, exp, Rt.kds l⟩ : Rt.RT) body ms).1.ver (Rt.next (⟨ver, exp, Rt.kds l⟩ : Rt.RT) body ms).1.exp (Rt.next (⟨ver, exp, Rt.kds l⟩ : Rt.RT) body ms).1.ver (Rt.next (⟨ver, exp, Rt.kds l⟩ : Rt.RT) body ms).1.exp l1 l2 w1 hl421 hl427 (by rw [hx21.2.1]; exact Rt.next_ok _ _ _) (by rw [hx27.2.1]; exact Rt.next_ok _ _ _) (fun y hy => sw.rd 201 _ rfl y hy) (fun y hy => sw.rd 202 _ rfl y hy)) rfl rfl ?_
      refine op_nil ?_
      refine ax_then ?_
      refine mx (i := 3) rfl (by decide +kernel) (by decide +kernel) (by decide +kernel) rfl (fun w0 => ev_move rfl) rfl rfl (Sub.refl _) ?_
      refine at_eq (i := 33) (v' := .bool true) rfl (by simp only [Value.bool.injEq, decide_eq_true_eq, decide_eq_false_iff_not]; exact Rt.rt_eq2 hx27.2.1 hx21.2.1) ?_
      refine mx (i := 4) rfl (by decide +kernel) (by decide +kernel) (by decide +kernel) rfl (fun w0 => ev_move rfl) rfl rfl (Sub.refl _) ?_
      refine mx (i := 5) rfl (by decide +kernel) (by decide +kernel) (by decide +kernel) rfl (fun w0 => ev_move rfl) rfl rfl (Sub.refl _) ?_
      refine mx (i := 6) rfl (by decide +kernel) (by decide +kernel) (by decide +kernel) rfl (fun w0 => ev_eql rfl rfl) rfl rfl (Sub.refl _) ?_
      refine mx (i := 7) rfl (by decide +kernel) (by decide +kernel) (by decide +kernel) rfl (fun w0 => ev_pick_t rfl rfl) rfl rfl (Sub.refl _) ?_
      refine mx (i := 8) rfl (by decide +kernel) (by decide +kernel) (by decide +kernel) rfl (fun w0 => ev_move rfl) rfl rfl (Sub.refl _) ?_
      refine at_eq (i := 38) (v' := .bool true) rfl (by rw [decide_eq_true rfl]) ?_
      refine mx (i := 9) rfl (by decide +kernel) (by decide +kernel) (by decide +kernel) rfl (fun w0 => ld_mem_all (h := 3) ty27 rfl rfl rfl (Rt.rootC_len _ _ (by omega))) rfl rfl (Sub.refl _) ?_
      refine mx (i := 10) rfl (by decide +kernel) (by decide +kernel) (by decide +kernel) rfl (fun w0 => ev_move rfl) rfl rfl (Sub.refl _) ?_
      refine mx (i := 12) rfl (by decide +kernel) (by decide +kernel) (by decide +kernel) rfl (fun w0 => ev_fieldAddr (b := _) Try.underlying27 (f := _) rfl ty3 (by decide) rfl) rfl rfl (Sub.refl _) ?_
      refine mx (i := 13) rfl (by decide +kernel) (by decide +kernel) (by decide +kernel) rfl (fun w0 => ld_mem1 (h := 3) ty3 rfl rfl rfl (Nat.zero_add _).symm rfl) rfl rfl (Sub.refl _) ?_
      refine mx (i := 14) rfl (by decide +kernel) (by decide +kernel) (by decide +kernel) rfl (fun w0 => ev_move rfl) rfl rfl (Sub.refl _) ?_
      refine mx (i := 15) rfl (by decide +kernel) (by decide +kernel) (by decide +kernel) rfl (fun w0 => ev_gtr rfl rfl) rfl rfl (Sub.refl _) ?_
      refine mx_one (i := 11) (by decide +kernel) (Sub.refl _) ?_
      refine wo (i := 11) rfl ?_
      refine st_callv has17 rfl (fun w1 sw => fresh_any ver exp now (Rt.rolsC l ++ Rt.zC (4 - l.length)) (by rw [List.length_append, Rt.rolsC_len, Rt.zC_len, hl]) w1) rfl rfl ?_
      refine op_nil ?_
      refine ax_then ?_
      refine mx (i := 16) rfl (by decide +kernel) (by decide +kernel) (by decide +kernel) rfl (fun w0 => ev_eql_bool Try.underlying4 rfl rfl) rfl rfl (Sub.refl _) ?_
      refine mx (i := 17) rfl (by decide +kernel) (by decide +kernel) (by decide +kernel) rfl (fun w0 => ev_pick_t rfl rfl) rfl rfl (Sub.refl _) ?_
      refine mx (i := 18) rfl (by decide +kernel) (by decide +kernel) (by decide +kernel) rfl (fun w0 => ev_move rfl) rfl rfl (Sub.refl _) ?_
      refine at_eq (i := 48) (v' := .bool true) rfl (by rw [beq_self_eq_true]) ?_
      refine mx_one (i := 19) (by decide +kernel) (Sub.refl _) ?_
      refine wo (i := 19) rfl ?_
      refine st_callv has18 rfl (fun w1 sw => known8_any w1) rfl rfl ?_
      refine op_nil ?_
      refine ax_then ?_
      refine mx (i := 20) rfl (by decide +kernel) (by decide +kernel) (by decide +kernel) rfl (fun w0 => ev_pick_t rfl rfl) rfl rfl (Sub.refl _) ?_
      refine mx (i := 21) rfl (by decide +kernel) (by decide +kernel) (by decide +kernel) rfl (fun w0 => ev_assign rfl) rfl rfl (Sub.refl _) ?_
      refine mx_done (by decide +kernel) (Sub.refl _) ?_
      refine ax_then ?_
      refine At.regs (L' := [(6, _)]) (.cons rfl (.nil _)) ?_
      refine cd_ret ?_
      refine rt_tmp (.inl rfl) Try.results3 rfl ?_
      exact fun w1 sw => ⟨rfl, sw.gives (.nil _)⟩
theorem follow_ok {r : Rt.RT} (h : Rt.RTok r) : ∀ es, Rt.RTok (Rt.follow r es).1
  | [] => h
  | x :: es => by
    rw [Rt.follow]
    split
    · exact h
    · exact follow_ok (Rt.next_ok _ _ _) es
set_option maxRecDepth 20000 in
set_option maxHeartbeats 8000000 in
theorem chainFollows_any (ver exp : Int) (l : List Rt.Rol) (lv : Value) (es : List Rt.Ev) (w : World) (hl : l.length = 4) (hone : ∀ x, x ∈ l → x.1.oneCell' = true) (hu : ∀ k, k ∈ Rt.kds l → H32 k.ks) (hkl : ∀ k, k ∈ Rt.kds l → k.ks.length ≤ 4398046511104) (h : ∀ y, y ∈ Rt.rowsR l → Rd w y.1 y.2.1 y.2.2) (he : ∀ x, x ∈ es → Rt.EvOk x) (hel : es.length ≤ 4398046511104) (hlv : Rd w lv 2 (Rt.eflat es)) (hev : ∀ x, x ∈ es → Rt.EvRd w x) : Calls Try.prog 4 #[.agg (List.toArray (Rt.rootC ver exp l)), lv] w (PostV w (.bool true)) := by
  refine calls_at (vs := [.agg (List.toArray (Rt.rootC ver exp l)), lv]) (X := []) (H := []) (F := [(25, .rows (Rt.erows es)), (24, .sl lv 2 (Rt.eflat es)), (200, .rows (Rt.rowsR (l)))]) 52 Try.func4 rfl rfl rfl (((((Sat.start0 w).read (f := .rows (Rt.rowsR (l))) 200 h off_nil).read (f := .sl lv 2 (Rt.eflat es)) 24 hlv off_nil).read (f := .rows (Rt.erows es)) 25 (Rt.erows_rd hev) off_nil)) ?_
  refine cd_seq ?_
  refine cd_region ?_
  refine st_box (h := 2) rfl rfl rfl rfl (fun b2 => ?_)
  refine st (ev_assign rfl) rfl rfl rfl ?_
  refine op_nil ?_
  refine ax_then ?_
  refine At.regs (L' := [(1, _), (2, _), (4, _)]) (.cons rfl (.cons rfl (.cons rfl (.nil _)))) ?_
  refine cd_seq ?_
  refine cd_seq ?_
  refine at_freeze_blk (h := 2) (H' := []) 2 rfl (.nil _) rfl ?_
  refine cd_region ?_
  refine st (ev_move rfl) rfl rfl rfl ?_
  refine st_call has12 rfl (fun w1 sw => large8_any lv es w1 he hel (sw.sl_rd (h := 24) rfl) (fun x hx => Rt.ev_of_rows (fun y hy => sw.rd 25 _ rfl y hy) hx)) nil_all rfl rfl (fun bl _ => ?_)
  refine st (ev_move rfl) rfl rfl rfl ?_
  refine at_split (i := 13) rfl (fun hg13 => ?_) (fun hg13 => ?_)
  ·
    refine st_skip rfl rfl rfl ?_
    refine st_skip rfl rfl rfl ?_
    refine st (ev_pick_t rfl rfl) rfl rfl rfl ?_
    refine st (ev_move rfl) rfl rfl rfl ?_
    refine st_skip rfl rfl rfl ?_
    refine st_skip rfl rfl rfl ?_
    refine st_skip rfl rfl rfl ?_
    refine st (ev_pick_t rfl rfl) rfl rfl rfl ?_
    refine op_nil ?_
    refine ax_then ?_
    refine At.regs (L' := [(1, _), (2, _), (4, _), (21, _)]) (.cons rfl (.cons rfl (.cons rfl (.cons rfl (.nil _))))) ?_
    refine cd_true rfl ?_
    refine cd_seq ?_
    refine cd_region ?_
    refine st (ev_assign rfl) rfl rfl rfl ?_
    refine op_nil ?_
    refine ax_then ?_
    refine At.regs (L' := [(1, _), (2, _), (4, _)]) (.cons rfl (.cons rfl (.cons rfl (.nil _)))) ?_
    refine cd_ret ?_
    refine ax_then_ret ?_
    refine rt_tmp (.inl rfl) Try.results4 rfl ?_
    exact fun w1 sw => ⟨rfl, sw.gives (.nil _)⟩
  ·
    refine st (ld_mem_all (h := 2) ty27 rfl rfl rfl (Rt.rootC_len _ _ (by omega))) rfl rfl rfl ?_
    refine st_callv has13 rfl (fun w1 sw => many_any ver exp l w1 hl hu hkl (fun y hy => sw.rd 200 _ rfl y hy)) rfl rfl ?_
    refine st (ev_pick_f rfl rfl) rfl rfl rfl ?_
    refine st (ev_move rfl) rfl rfl rfl ?_
    refine at_split_if (i := 17) rfl (fun hg17 => ?_) (fun hg17 => ?_)
    ·
      refine st_skip rfl rfl rfl ?_
      refine st_skip rfl rfl rfl ?_
      refine st_skip rfl rfl rfl ?_
      refine st (ev_pick_t rfl rfl) rfl rfl rfl ?_
      refine op_nil ?_
      refine ax_then ?_
      refine At.regs (L' := [(1, _), (2, _), (4, _), (21, _)]) (.cons rfl (.cons rfl (.cons rfl (.cons rfl (.nil _))))) ?_
      refine cd_true rfl ?_
      refine cd_seq ?_
      refine cd_region ?_
      refine st (ev_assign rfl) rfl rfl rfl ?_
      refine op_nil ?_
      refine ax_then ?_
      refine At.regs (L' := [(1, _), (2, _), (4, _)]) (.cons rfl (.cons rfl (.cons rfl (.nil _)))) ?_
      refine cd_ret ?_
      refine ax_then_ret ?_
      refine rt_tmp (.inl rfl) Try.results4 rfl ?_
      exact fun w1 sw => ⟨rfl, sw.gives (.nil _)⟩
    ·
      refine st (ev_move rfl) rfl rfl rfl ?_
      refine st (ev_len_rd (h := 24) (n := es.length) Try.underlying43 rfl rfl (Rt.eflat_len es) (by decide)) rfl rfl rfl ?_
      refine st (ev_gtr rfl rfl) rfl rfl rfl ?_
      refine st (ev_pick_f rfl rfl) rfl rfl rfl ?_
      refine op_nil ?_
      refine ax_then ?_
      refine At.regs (L' := [(1, _), (2, _), (4, _), (21, _)]) (.cons rfl (.cons rfl (.cons rfl (.cons rfl (.nil _))))) ?_
      refine cd_if rfl (fun hc21 => ?_) (fun hc21 => ?_)
      ·
        refine cd_seq ?_
        refine cd_region ?_
        refine st (ev_assign rfl) rfl rfl rfl ?_
        refine op_nil ?_
        refine ax_then ?_
        refine At.regs (L' := [(1, _), (2, _), (4, _)]) (.cons rfl (.cons rfl (.cons rfl (.nil _)))) ?_
        refine cd_ret ?_
        refine ax_then_ret ?_
        refine rt_tmp (.inl rfl) Try.results4 rfl ?_
        exact fun w1 sw => ⟨rfl, sw.gives (.nil _)⟩
      ·
        have hk : Rt.RTok (⟨ver, exp, Rt.kds l⟩ : Rt.RT) := ⟨by show (Rt.kds l).length = 4; rw [Rt.kds_len]; exact hl, hu, fun k hk => by have h1 : k.ks.length ≤ Rt.cntR (Rt.kds l) := Rt.cntR_le hk; omega⟩
        refine cd_skip ?_
        refine ax_then ?_
        refine At.regs (L' := [(1, _), (2, _), (4, _)]) (.cons rfl (.cons rfl (.cons rfl (.nil _)))) ?_
        refine cd_seq ?_
        refine cd_region ?_
        refine st (ld_mem_all (h := 2) ty27 rfl rfl rfl (Rt.rootC_len _ _ (by omega))) rfl rfl rfl ?_
        refine st (ev_move rfl) rfl rfl rfl ?_
        refine st_callE 201 200 has19 rfl rfl (fun w1 sw => follow_any ver exp l lv es w1 hl hone hk (fun y hy => sw.rd 200 _ rfl y hy) he hel (sw.sl_rd (h := 24) rfl) (fun x hx => Rt.ev_of_rows (fun y hy => sw.rd 25 _ rfl y hy) hx)) rfl rfl (fun l1 hx25 hf25 => ?_)
        have hl425 := hx25.1
        refine st (ev_move rfl) rfl rfl rfl ?_
        refine st (ev_extract rfl rfl) rfl rfl rfl ?_
        refine st (ev_extract rfl rfl) rfl rfl rfl ?_
        refine st (ev_extract rfl rfl) rfl rfl rfl ?_
        refine st_alloc (h := 5) ty27 rfl rfl rfl (fun b5 => ?_)
        refine st_store_all 5 ty27 rfl rfl rfl rfl (Rt.rootC_len _ _ (by omega)) (Rt.rootC_one _ _ hx25.2.2) rfl rfl ?_
        refine st (ev_assign rfl) rfl rfl rfl ?_
        refine st (ev_assign rfl) rfl rfl rfl ?_
        refine op_nil ?_
        refine ax_then ?_
        refine At.regs (L' := [(1, _), (2, _), (4, _), (5, _), (6, _), (7, _)]) (.cons rfl (.cons rfl (.cons rfl (.cons rfl (.cons rfl (.cons rfl (.nil _))))))) ?_
        refine cd_seq ?_
        refine at_freeze_blk (h := 5) (H' := []) 5 rfl (.nil _) rfl ?_
        refine cd_region ?_
        refine st (ld_mem_all (h := 2) ty27 rfl rfl rfl (Rt.rootC_len _ _ (by omega))) rfl rfl rfl ?_
        refine st (ev_move rfl) rfl rfl rfl ?_
        refine st_callE 202 200 has20 rfl rfl (fun w1 sw => qfollow_any ver exp l lv es w1 hl hone hk (fun y hy => sw.rd 200 _ rfl y hy) he hel (sw.sl_rd (h := 24) rfl) (fun x hx => Rt.ev_of_rows (fun y hy => sw.rd 25 _ rfl y hy) hx)) rfl rfl (fun l2 hx32 hf32 => ?_)
        have hl432 := hx32.1
        refine st (ev_move rfl) rfl rfl rfl ?_
        refine st (ev_extract rfl rfl) rfl rfl rfl ?_
        refine st (ev_extract rfl rfl) rfl rfl rfl ?_
        refine st (ev_extract rfl rfl) rfl rfl rfl ?_
        refine st_alloc (h := 8) ty27 rfl rfl rfl (fun b8 => ?_)
        refine st_store_all 8 ty27 rfl rfl rfl rfl (Rt.rootC_len _ _ (by omega)) (Rt.rootC_one _ _ hx32.2.2) rfl rfl ?_
        refine st (ev_assign rfl) rfl rfl rfl ?_
        refine st (ev_assign rfl) rfl rfl rfl ?_
        refine op_nil ?_
        refine ax_then ?_
        refine At.regs (L' := [(4, _), (5, _), (6, _), (7, _), (8, _), (9, _), (10, _)]) (.cons rfl (.cons rfl (.cons rfl (.cons rfl (.cons rfl (.cons rfl (.cons rfl (.nil _)))))))) ?_
        refine cd_seq ?_
        refine at_freeze_blk (h := 8) (H' := []) 8 rfl (.nil _) rfl ?_
        refine cd_region ?_
        refine st (ld_mem_all (h := 5) ty27 rfl rfl rfl (Rt.rootC_len _ _ (by omega))) rfl rfl rfl ?_
        refine st (ld_mem_all (h := 8) ty27 rfl rfl rfl (Rt.rootC_len _ _ (by omega))) rfl rfl rfl ?_
        refine st_callv has16 rfl (fun w1 sw => sameroot_any (Rt.follow (⟨ver, exp, Rt.kds l⟩ : Rt.RT) es).1.ver (Rt.follow (⟨ver, exp, Rt.kds l⟩ : Rt.RT) es).1.exp (Rt.follow (⟨ver, exp, Rt.kds l⟩ : Rt.RT) es).1.ver (Rt.follow (⟨ver, exp, Rt.kds l⟩ : Rt.RT) es).1.exp l1 l2 w1 hl425 hl432 (by rw [hx25.2.1]; exact follow_ok hk es) (by rw [hx32.2.1]; exact follow_ok hk es) (fun y hy => sw.rd 201 _ rfl y hy) (fun y hy => sw.rd 202 _ rfl y hy)) rfl rfl ?_
        refine st (ev_move rfl) rfl rfl rfl ?_
        refine at_eq (i := 39) (v' := .bool true) rfl (by simp only [Value.bool.injEq, decide_eq_true_eq, decide_eq_false_iff_not]; exact Rt.rt_eq2 hx32.2.1 hx25.2.1) ?_
        refine st (ev_move rfl) rfl rfl rfl ?_
        refine st (ev_move rfl) rfl rfl rfl ?_
        refine st (ev_eql rfl rfl) rfl rfl rfl ?_
        refine st (ev_pick_t rfl rfl) rfl rfl rfl ?_
        refine st (ev_move rfl) rfl rfl rfl ?_
        refine at_eq (i := 44) (v' := .bool true) rfl (by rw [decide_eq_true rfl]) ?_
        refine st (ev_move rfl) rfl rfl rfl ?_
        refine st (ev_move rfl) rfl rfl rfl ?_
        refine st (ev_eql rfl rfl) rfl rfl rfl ?_
        refine st (ev_pick_t rfl rfl) rfl rfl rfl ?_
        refine st (ev_move rfl) rfl rfl rfl ?_
        refine at_eq (i := 49) (v' := .bool true) rfl (by rw [decide_eq_true rfl]) ?_
        refine st_callv has18 rfl (fun w1 sw => known8_any w1) rfl rfl ?_
        refine st (ev_pick_t rfl rfl) rfl rfl rfl ?_
        refine st (ev_assign rfl) rfl rfl rfl ?_
        refine op_nil ?_
        refine ax_then ?_
        refine At.regs (L' := [(4, _)]) (.cons rfl (.nil _)) ?_
        refine cd_ret ?_
        refine rt_tmp (.inl rfl) Try.results4 rfl ?_
        exact fun w1 sw => ⟨rfl, sw.gives (.nil _)⟩
end Go.Proofs.Ytgfnmolbagilmaa

namespace Go.Proofs.Ytgfnmolbagilmaa.Fw
open Go Go.RowKit Go.WideShapes Go.ChangeShapes
set_option linter.unusedVariables false
set_option linter.unusedSimpArgs false
section
variable {H : Type} {enc : TypeId × Value → H} {P : Program} {W : World}
theorem ok_or {t e : TypeId} {v : Value} (ht : P.underlying t = some (.slice e)) (he : 0 < P.cellsOf e) (h : Tr enc P W t [v]) : OkS v ∨ ∃ a cap, v = .slice (some a) 0 cap := by
  obtain ⟨fuel, d, ps, hf, hw⟩ := h
  rcases DataW.trod_slice ht hf with ⟨hc, _⟩ | ⟨a, len', cap', elems, rest, n, rfl, hc, hdd, hb, hl, hm, hlen, hel, _⟩
  · simp at hc
    exact .inl ⟨none, 0, 0, hc, Nat.le_refl _, fun _ => rfl, fun x hx => by cases hx⟩
  · simp at hc
    rcases Nat.eq_zero_or_pos len' with h0 | h0
    · subst h0
      exact .inr ⟨a, cap', hc⟩
    · refine .inl ⟨some a, len', cap', hc, hl, (fun hn => by cases hn), fun x hx => ?_⟩
      cases hx
      have h1 := hel 0 h0
      have hx : ∃ x, elems[0]? = some x := ⟨elems[0]'(by omega), List.getElem?_eq_getElem (by omega)⟩
      obtain ⟨x, hx⟩ := hx
      rw [hx] at h1
      obtain ⟨cs, h4, _⟩ := Option.bind_eq_some_iff.1 h1
      obtain ⟨_, h5, h6⟩ := World.cells?_some h4
      have h7 := h6 0 (by omega)
      have e1 : (a.add (0 * P.cellsOf e)).add 0 = a := by rw [Nat.zero_mul]; rfl
      rw [e1] at h7
      rw [List.getElem?_eq_getElem (by omega : 0 < cs.length)] at h7
      apply Classical.byContradiction
      intro hs
      unfold World.cell? at h7
      split at h7
      · rw [if_pos (by cases hsp : a.spot with | none => exact absurd hsp hs | some y => rfl)] at h7
        cases h7
      · cases h7
/-- A slice, opened, wherever it lies. -/
theorem rd_tr2 {t e : TypeId} {v : Value} (ht : P.underlying t = some (.slice e)) (he : 0 < P.cellsOf e) (h : Tr enc P W t [v]) :
    ∃ (l : List Value) (n : Nat), Rd W v (P.cellsOf e) l ∧ l.length = n * P.cellsOf e ∧ n * P.bytesOf e ≤ reachBytes ∧ ∀ i, i < n → Tr enc P W e ((l.drop (i * P.cellsOf e)).take (P.cellsOf e)) := by
  rcases ok_or ht he h with hok | ⟨a, cap, rfl⟩
  · exact rd_tr ht he hok h
  · exact ⟨[], 0, ⟨some a, 0, cap, rfl, by simp, Nat.zero_le _, (fun hn => by cases hn), fun x hx => ⟨fun hp => by simp at hp, fun i hi => by simp at hi⟩⟩, by simp, by simp, fun i hi => by omega⟩
theorem rd_hashes2 {t e b : TypeId} {v : Value} (ht : P.underlying t = some (.slice e)) (he : P.underlying e = some (.array 32 b)) (hb : P.underlying b = some (.int .u8)) (hc : P.cellsOf b = 1) (hn : P.cellsOf e = 32) (h : Tr enc P W t [v]) :
    ∃ hs, Rd W v 32 (flat hs) ∧ H32 hs ∧ hs.length * P.bytesOf e ≤ reachBytes ∧ ∀ h, h ∈ hs → Sha.Byt h := by
  obtain ⟨l, n, h1, h2, h3, h4⟩ := rd_tr2 ht (by omega) h
  rw [hn] at h1 h2 h4
  obtain ⟨hs, rfl, h5, h6, h7⟩ := flat_all he hb hc hn n l h2 h4
  exact ⟨hs, h1, h5, by rw [h6]; exact h3, h7⟩
theorem rd_ints2 {t e : TypeId} {k : IntKind} {v : Value} (ht : P.underlying t = some (.slice e)) (he : P.underlying e = some (.int k)) (hc : P.cellsOf e = 1) (h : Tr enc P W t [v]) :
    ∃ l, Rd W v 1 (ints k l) ∧ l.length * P.bytesOf e ≤ reachBytes ∧ ∀ z, z ∈ l → (Lit.int k z).wf = true := by
  obtain ⟨l, n, h1, h2, h3, h4⟩ := rd_tr2 ht (by omega) h
  rw [hc, Nat.mul_one] at h2
  rw [hc] at h1
  obtain ⟨zs, rfl, h5⟩ := ints_all (k := k) l (fun i hi => by
    obtain ⟨m, h5, h6⟩ := tr_int he (h4 i (by omega))
    rw [hc, Nat.mul_one, take1 hi] at h5
    exact ⟨m, by rw [List.getElem?_eq_getElem hi, (List.cons.inj h5).1], h6⟩)
  exact ⟨zs, h1, by rw [ints_length] at h2; rw [h2]; exact h3, h5⟩
/-- A struct among cells, opened. -/
theorem tr_struct {t : TypeId} {fs : Array Field} {cs : List Value} (ht : P.underlying t = some (.struct fs)) (h : Tr enc P W t cs) : cs.length = P.cellsOf t ∧ ∀ (i : Nat) (f : Field), fs[i]? = some f → Tr enc P W f.type ((cs.drop f.offset).take (P.cellsOf f.type)) := by
  obtain ⟨fuel, d, ps, hf, hw⟩ := h
  obtain ⟨xs, n, rfl, hx, h3, h4, h5⟩ := DataW.trod_struct ht hf
  obtain ⟨rfl, _⟩ := Prod.mk.injEq .. ▸ hx
  refine ⟨h3, fun i f hi => ?_⟩
  have h := h5 i f hi
  have hlt : i < fs.size := (Array.getElem?_eq_some_iff.1 hi).1
  obtain ⟨x, hx⟩ : ∃ x, xs[i]? = some x := ⟨xs[i], List.getElem?_eq_getElem (by omega)⟩
  rw [hx] at h
  refine ⟨n, x.1, x.2, h, fun k hk => hw k ?_⟩
  simp only [DataW.weights, ht]
  exact DataW.weights_mem_each (j := i) (t := f.type) (d := x.1) (by simp [hi]) (by rw [List.getElem?_map, hx]; rfl) k hk
/-- An array among cells, opened. -/
theorem tr_array {t e : TypeId} {n : Nat} {cs : List Value} (ht : P.underlying t = some (.array n e)) (h : Tr enc P W t cs) : ∀ i, i < n → Tr enc P W e ((cs.drop (i * P.cellsOf e)).take (P.cellsOf e)) := by
  obtain ⟨fuel, d, ps, hf, hw⟩ := h
  obtain ⟨xs, m, rfl, hx, h1, h2, h3⟩ := DataW.trod_array ht hf
  obtain ⟨rfl, _⟩ := Prod.mk.injEq .. ▸ hx
  intro i hi
  have h := h3 i hi
  obtain ⟨x, hx⟩ : ∃ x, xs[i]? = some x := ⟨xs[i]'(by omega), List.getElem?_eq_getElem (by omega)⟩
  rw [hx] at h
  refine ⟨m, x.1, x.2, h, fun k hk => hw k ?_⟩
  simp only [DataW.weights, ht]
  exact weights_all (i := i) (by rw [List.getElem?_map, hx]; rfl) k hk
theorem arg_struct {r : Reach} {base : Nat} {t : TypeId} {fs : Array Field} {v : Value} {d : DataW H} {ps : List MemPlace} (ht : P.underlying t = some (.struct fs))
    (hval : Value.okWide P W r base t v) (hd : DataW.Trod enc P W 0 (fun _ => true) true t v d ps) (hw : Light P t d) : ∃ cs : List Value, v = .agg cs.toArray ∧ Tr enc P W t cs := by
  simp only [Value.okWide, ht] at hval
  obtain ⟨cs, rfl, _⟩ := hval
  obtain ⟨fuel, hf⟩ := hd
  exact ⟨cs.toList, by simp, fuel, d, ps, by simpa [Value.cells] using hf, hw⟩
end
end Go.Proofs.Ytgfnmolbagilmaa.Fw

namespace Go.Proofs.Ytgfnmolbagilmaa
open Go Go.ChangeShapes Go.WideShapes Go.ChangeAt Go.RowKit Fw
set_option linter.unusedVariables false
theorem laid : laidOutB Try.prog = true := by kernel_rfl
theorem mark_open {H : Type} {enc : TypeId × Value → H} {W : World} {cs : List Value} (h : Tr enc Try.prog W 82 cs) : ∃ x : Qm.Mark, cs = Qm.mcells x ∧ Qm.MOk x ∧ Qm.MRd W x := by
  obtain ⟨hl, hf⟩ := tr_struct Try.underlying82 h
  rw [show Try.prog.cellsOf 82 = 35 from by kernel_rfl] at hl
  have t0 : Tr enc Try.prog W 55 ((cs.drop 0).take (Try.prog.cellsOf 55)) := hf 0 _ rfl
  have t1 : Tr enc Try.prog W 80 ((cs.drop 32).take (Try.prog.cellsOf 80)) := hf 1 _ rfl
  rw [show Try.prog.cellsOf 55 = 32 from by kernel_rfl] at t0
  rw [show Try.prog.cellsOf 80 = 3 from by kernel_rfl] at t1
  obtain ⟨zs, e0, l0, w0⟩ := tr_ints Try.underlying55 Try.underlying5 (by kernel_rfl) (by kernel_rfl) t0
  obtain ⟨hl1, hf1⟩ := tr_struct Try.underlying80 t1
  obtain ⟨c0, c1, c2, e1⟩ := three (l := (cs.drop 32).take 3) (by rw [List.length_take, List.length_drop]; omega)
  rw [e1] at hf1
  have u0 : Tr enc Try.prog W 3 (([c0, c1, c2].drop 0).take (Try.prog.cellsOf 3)) := hf1 0 _ rfl
  have u1 : Tr enc Try.prog W 22 (([c0, c1, c2].drop 1).take (Try.prog.cellsOf 22)) := hf1 1 _ rfl
  have u2 : Tr enc Try.prog W 22 (([c0, c1, c2].drop 2).take (Try.prog.cellsOf 22)) := hf1 2 _ rfl
  rw [show Try.prog.cellsOf 3 = 1 from by kernel_rfl] at u0
  rw [show Try.prog.cellsOf 22 = 1 from by kernel_rfl] at u1 u2
  obtain ⟨n, hn, _⟩ := tr_int Try.underlying3 u0
  obtain rfl : c0 = .int .i64 n := (List.cons.inj hn).1
  obtain ⟨hs1, rd1, hu1, m1, _⟩ := rd_hashes2 Try.underlying22 Try.underlying55 Try.underlying5 (by kernel_rfl) (by kernel_rfl) u1
  obtain ⟨hs2, rd2, hu2, m2, _⟩ := rd_hashes2 Try.underlying22 Try.underlying55 Try.underlying5 (by kernel_rfl) (by kernel_rfl) u2
  rw [show Try.prog.bytesOf 55 = 32 from by kernel_rfl] at m1 m2
  have hr : reachBytes = 140737488351232 := rfl
  refine ⟨⟨zs, n, c1, c2, hs1, hs2⟩, ?_, ⟨l0, hu1, hu2, by show hs1.length ≤ _; omega, by show hs2.length ≤ _; omega⟩, rd1, rd2⟩
  show cs = ints .u8 zs ++ [.int .i64 n, c1, c2]
  rw [List.drop_zero] at e0
  rw [← e0, ← e1, List.take_of_length_le (by rw [List.length_drop]; omega : (cs.drop 32).length ≤ 3), List.take_append_drop]
theorem marks_open {H : Type} {enc : TypeId × Value → H} {W : World} : ∀ (n : Nat) (l : List Value), l.length = n * 35 → (∀ i, i < n → Tr enc Try.prog W 82 ((l.drop (i * 35)).take 35)) → ∃ ms, l = Qm.mflat ms ∧ ms.length = n ∧ Qm.AOk ms ∧ ∀ x, x ∈ ms → Qm.MRd W x
  | 0, l, hl, _ => ⟨[], by rw [List.length_eq_zero_iff.1 (by omega : l.length = 0)]; rfl, rfl, (fun x hx => by cases hx), (fun x hx => by cases hx)⟩
  | n + 1, l, hl, h => by
    obtain ⟨x, h1, h2, h3⟩ := mark_open (h 0 (by omega))
    obtain ⟨ms, h4, h5, h6, h7⟩ := marks_open n (l.drop 35) (by rw [List.length_drop]; omega) (fun i hi => by
      have := h (i + 1) (by omega)
      rw [List.drop_drop]
      have e1 : 35 + i * 35 = (i + 1) * 35 := by omega
      rw [e1]
      exact this)
    rw [Nat.zero_mul, List.drop_zero] at h1
    refine ⟨x :: ms, ?_, by rw [List.length_cons, h5], fun y hy => ?_, fun y hy => ?_⟩
    · rw [Qm.mflat, List.flatMap_cons, ← h1]
      show l = l.take 35 ++ Qm.mflat ms
      rw [← h4, List.take_append_drop]
    · rcases List.mem_cons.1 hy with rfl | hy
      · exact h2
      · exact h6 y hy
    · rcases List.mem_cons.1 hy with rfl | hy
      · exact h3
      · exact h7 y hy
theorem env_open {H : Type} {enc : TypeId × Value → H} {W : World} {cs : List Value} (h : Tr enc Try.prog W 31 cs) : ∃ (pb mv : Value) (body : List Int) (ms : List Qm.Mark), cs = [pb, mv] ∧ Rd W pb 1 (ints .u8 body) ∧ body.length ≤ 140737488351232 ∧ Sha.Byt body ∧ Rd W mv 35 (Qm.mflat ms) ∧ ms.length ≤ 2000000000000 ∧ Qm.AOk ms ∧ ∀ x, x ∈ ms → Qm.MRd W x := by
  obtain ⟨hl, hf⟩ := tr_struct Try.underlying31 h
  obtain ⟨c0, c1, rfl⟩ := two (hl.trans (by kernel_rfl))
  have t0 : Tr enc Try.prog W 28 (([c0, c1].drop 0).take (Try.prog.cellsOf 28)) := hf 0 _ rfl
  have t1 : Tr enc Try.prog W 29 (([c0, c1].drop 1).take (Try.prog.cellsOf 29)) := hf 1 _ rfl
  rw [show Try.prog.cellsOf 28 = 1 from by kernel_rfl] at t0
  rw [show Try.prog.cellsOf 29 = 1 from by kernel_rfl] at t1
  obtain ⟨body, rd0, m0, b0⟩ := rd_ints2 (k := .u8) Try.underlying28 Try.underlying5 (by kernel_rfl) t0
  obtain ⟨l, n, rd1, e1, m1, h1⟩ := rd_tr2 Try.underlying29 (by rw [show Try.prog.cellsOf 82 = 35 from by kernel_rfl]; decide) t1
  rw [show Try.prog.cellsOf 82 = 35 from by kernel_rfl] at rd1 e1 h1
  rw [show Try.prog.bytesOf 82 = 88 from by kernel_rfl] at m1
  rw [show Try.prog.bytesOf 5 = 1 from by kernel_rfl] at m0
  have hr : reachBytes = 140737488351232 := rfl
  obtain ⟨ms, rfl, h2, h3, h4⟩ := marks_open n l e1 h1
  exact ⟨c0, c1, body, ms, rfl, rd0, by omega, wf_byt b0, rd1, by omega, h3, h4⟩
theorem keys_open {H : Type} {enc : TypeId × Value → H} {W : World} {cs : List Value} (h : Tr enc Try.prog W 24 cs) : ∃ (kv : Value) (ks : List (List Int)) (need : Int), cs = [kv, .int .i64 need] ∧ Rd W kv 32 (flat ks) ∧ H32 ks ∧ ks.length ≤ 4398046511104 ∧ (Lit.int .i64 need).wf = true := by
  obtain ⟨hl, hf⟩ := tr_struct Try.underlying24 h
  obtain ⟨c0, c1, rfl⟩ := two (hl.trans (by kernel_rfl))
  have t0 : Tr enc Try.prog W 22 (([c0, c1].drop 0).take (Try.prog.cellsOf 22)) := hf 0 _ rfl
  have t1 : Tr enc Try.prog W 3 (([c0, c1].drop 1).take (Try.prog.cellsOf 3)) := hf 1 _ rfl
  rw [show Try.prog.cellsOf 22 = 1 from by kernel_rfl] at t0
  rw [show Try.prog.cellsOf 3 = 1 from by kernel_rfl] at t1
  obtain ⟨ks, rd0, hu, m0, _⟩ := rd_hashes2 Try.underlying22 Try.underlying55 Try.underlying5 (by kernel_rfl) (by kernel_rfl) t0
  rw [show Try.prog.bytesOf 55 = 32 from by kernel_rfl] at m0
  have hr : reachBytes = 140737488351232 := rfl
  obtain ⟨n, hn, wn⟩ := tr_int Try.underlying3 t1
  obtain rfl : c1 = .int .i64 n := (List.cons.inj hn).1
  exact ⟨c0, ks, n, rfl, rd0, hu, by omega, wn⟩
set_option maxRecDepth 100000 in
theorem root_open {H : Type} {enc : TypeId × Value → H} {W : World} {cs : List Value} (h : Tr enc Try.prog W 27 cs) : ∃ (ver exp : Int) (l : List Rt.Rol), cs = Rt.rootC ver exp l ∧ l.length = 4 ∧ (∀ x, x ∈ l → x.1.oneCell' = true) ∧ (∀ k, k ∈ Rt.kds l → H32 k.ks) ∧ (∀ k, k ∈ Rt.kds l → k.ks.length ≤ 4398046511104) ∧ ∀ y, y ∈ Rt.rowsR l → Rd W y.1 y.2.1 y.2.2 := by
  obtain ⟨hl, hf⟩ := tr_struct Try.underlying27 h
  rw [show Try.prog.cellsOf 27 = 10 from by kernel_rfl] at hl
  have t0 : Tr enc Try.prog W 3 ((cs.drop 0).take (Try.prog.cellsOf 3)) := hf 0 _ rfl
  have t1 : Tr enc Try.prog W 3 ((cs.drop 1).take (Try.prog.cellsOf 3)) := hf 1 _ rfl
  have t2 : Tr enc Try.prog W 25 ((cs.drop 2).take (Try.prog.cellsOf 25)) := hf 2 _ rfl
  have ta := tr_array Try.underlying25 t2
  rw [show Try.prog.cellsOf 3 = 1 from by kernel_rfl] at t0 t1
  rw [show Try.prog.cellsOf 25 = 8 from by kernel_rfl, show Try.prog.cellsOf 24 = 2 from by kernel_rfl] at ta
  match cs, hl with
  | [c0, c1, c2, c3, c4, c5, c6, c7, c8, c9], _ =>
    have u0 : Tr enc Try.prog W 24 [c2, c3] := ta 0 (by decide)
    have u1 : Tr enc Try.prog W 24 [c4, c5] := ta 1 (by decide)
    have u2 : Tr enc Try.prog W 24 [c6, c7] := ta 2 (by decide)
    have u3 : Tr enc Try.prog W 24 [c8, c9] := ta 3 (by decide)
    obtain ⟨n0, f0, _⟩ := tr_int Try.underlying3 (show Tr enc Try.prog W 3 [c0] from t0)
    obtain ⟨n1, f1, _⟩ := tr_int Try.underlying3 (show Tr enc Try.prog W 3 [c1] from t1)
    obtain rfl : c0 = .int .i64 n0 := (List.cons.inj f0).1
    obtain rfl : c1 = .int .i64 n1 := (List.cons.inj f1).1
    obtain ⟨k0, s0, d0, e0, r0, h0, l0, _⟩ := keys_open u0
    obtain ⟨k1, s1, d1, e1, r1, h1, l1, _⟩ := keys_open u1
    obtain ⟨k2, s2, d2, e2, r2, h2, l2, _⟩ := keys_open u2
    obtain ⟨k3, s3, d3, e3, r3, h3, l3, _⟩ := keys_open u3
    obtain ⟨rfl, g0⟩ := List.cons.inj e0
    obtain ⟨rfl, g1⟩ := List.cons.inj e1
    obtain ⟨rfl, g2⟩ := List.cons.inj e2
    obtain ⟨rfl, g3⟩ := List.cons.inj e3
    obtain rfl := (List.cons.inj g0).1
    obtain rfl := (List.cons.inj g1).1
    obtain rfl := (List.cons.inj g2).1
    obtain rfl := (List.cons.inj g3).1
    refine ⟨n0, n1, [(c2, ⟨s0, d0⟩), (c4, ⟨s1, d1⟩), (c6, ⟨s2, d2⟩), (c8, ⟨s3, d3⟩)], rfl, rfl, fun x hx => ?_, fun k hk => ?_, fun k hk => ?_, fun y hy => ?_⟩
    · simp only [List.mem_cons, List.not_mem_nil, or_false] at hx
      rcases hx with rfl | rfl | rfl | rfl
      · exact (rd_shape r0).2
      · exact (rd_shape r1).2
      · exact (rd_shape r2).2
      · exact (rd_shape r3).2
    · simp only [Rt.kds, List.map_cons, List.map_nil, List.mem_cons, List.not_mem_nil, or_false] at hk
      rcases hk with rfl | rfl | rfl | rfl <;> assumption
    · simp only [Rt.kds, List.map_cons, List.map_nil, List.mem_cons, List.not_mem_nil, or_false] at hk
      rcases hk with rfl | rfl | rfl | rfl <;> assumption
    · simp only [Rt.rowsR, List.map_cons, List.map_nil, List.mem_cons, List.not_mem_nil, or_false] at hy
      rcases hy with rfl | rfl | rfl | rfl <;> assumption
theorem envs_open {H : Type} {enc : TypeId × Value → H} {W : World} : ∀ (n : Nat) (l : List Value), l.length = n * 2 → (∀ i, i < n → Tr enc Try.prog W 31 ((l.drop (i * 2)).take 2)) → ∃ es : List Rt.Ev, l = Rt.eflat es ∧ es.length = n ∧ (∀ x, x ∈ es → Rt.EvOk x) ∧ ∀ x, x ∈ es → Rt.EvRd W x
  | 0, l, hl, _ => ⟨[], by rw [List.length_eq_zero_iff.1 (by omega : l.length = 0)]; rfl, rfl, (fun x hx => by cases hx), (fun x hx => by cases hx)⟩
  | n + 1, l, hl, h => by
    obtain ⟨pb, mv, body, ms, h1, h2, h3, h4, h5, h6, h7, h8⟩ := env_open (h 0 (by omega))
    obtain ⟨es, g1, g2, g3, g4⟩ := envs_open n (l.drop 2) (by rw [List.length_drop]; omega) (fun i hi => by
      have := h (i + 1) (by omega)
      rw [List.drop_drop]
      have e1 : 2 + i * 2 = (i + 1) * 2 := by omega
      rw [e1]
      exact this)
    rw [Nat.zero_mul, List.drop_zero] at h1
    refine ⟨⟨pb, mv, body, ms⟩ :: es, ?_, by rw [List.length_cons, g2], fun y hy => ?_, fun y hy => ?_⟩
    · rw [Rt.eflat, List.flatMap_cons]
      show l = [pb, mv] ++ Rt.eflat es
      rw [← h1, ← g1, List.take_append_drop]
    · rcases List.mem_cons.1 hy with rfl | hy
      · exact ⟨h3, h4, h7, h6⟩
      · exact g3 y hy
    · rcases List.mem_cons.1 hy with rfl | hy
      · exact ⟨h2, h5, h8⟩
      · exact g4 y hy
namespace chainStays
theorem own : ownKnob Try.prog.godebug = none := by kernel_rfl
set_option maxRecDepth 100000 in
theorem lifted (os : Os) (started : os.Started) (H : Type) (enc : TypeId × Value → H) :
    ReturnsInHanded {} Try.checked os 6 .any (Rows.chainStaysSpec.pre6 enc Try.prog Try.f6 Rows.chainStaysRow.domain false) (Rows.chainStaysSpec.post enc Try.prog Try.f6 false true false false) := by
  refine returnsInHanded_of_change_sized (C := Try.checked) own started (by kernel_rfl) Try.func6
    (ChangeSpec.witness6 (enc := enc) (C := Try.checked) false ⟨#[], #[.agg #[.int .i64 0, .int .i64 0, .slice none 0 0, .int .i64 0, .slice none 0 0, .int .i64 0, .slice none 0 0, .int .i64 0, .slice none 0 0, .int .i64 0], .slice none 0 0], []⟩ 8 (by kernel_rfl) (by kernel_rfl) (by kernel_rfl) (by kernel_rfl)) ?_
  intro W base args ds gs before hval0 hW hcnd hsz _
  have hval : ∀ (j : Nat) t v, Try.f6.params[j]? = some t → args[j]? = some v → Value.okWide Try.prog W .any base t v := hval0
  have hW' := hW
  obtain ⟨p, q, hA0, hV, rfl, hfz, hnd⟩ := hW
  have hA : DataW.TrodAll enc Try.prog W 0 (fun _ => true) true Try.f6.params.toList args.toList ds p := hA0
  have hk := hA
  have hlt : ∀ x ∈ p, x.block < W.heap.size := fun x hx => hW'.lt x (List.mem_append.2 (.inl hx))
  rw [Try.params6] at hA hval hk
  obtain ⟨v0, vs0, d0, ds0, p0, q0, hargs, rfl, rfl, h0, r0⟩ := trodAll_cons hA
  obtain ⟨v1, vs1, d1, ds1, p1, q1, rfl, rfl, rfl, h1, r1⟩ := trodAll_cons r0
  obtain ⟨rfl, rfl, rfl⟩ := trodAll_nil r1
  obtain rfl : args = #[v0, v1] := by cases args; simp_all
  obtain ⟨rfl, rfl⟩ := trodVars_none hV
  obtain ⟨cs0, rfl, tr0⟩ := arg_struct Try.underlying27 (hval 0 27 v0 rfl rfl) h0 (light_of (j := 0) hsz rfl rfl)
  obtain ⟨ver0, exp0, l0, rfl, rl0, ro0, ru0, rk0, rr0⟩ := root_open tr0
  obtain ⟨l1, rd1, m1, b1⟩ := rd_ints Try.underlying28 Try.underlying5 (by kernel_rfl) (hval 1 28 v1 rfl rfl) h1 (light_of (j := 1) hsz rfl rfl)
  have len1 : l1.length ≤ 140737488351232 := by
    have h := m1
    rw [show Try.prog.bytesOf 5 = 1 from by kernel_rfl] at h
    have hr : reachBytes = 140737488351232 := rfl
    omega
  refine (chainStays_any ver0 exp0 l0 v1 l1 W rl0 ro0 ru0 rk0 rr0 len1 (wf_byt b1) rd1).mono fun e W' ⟨he, g⟩ => ?_
  subst he
  have bel := g.below
  exact ⟨_, rfl, _, _, _, [], _, [], hW', trodAll_mk1 (shut_bool Try.underlying4 _), all_below laid bel _ _ _ _ (all_rows (by kernel_rfl)) hk hlt (fun x hx => by simpa using hlt x hx), rfl, bel.frame _, fun h => by cases h⟩
theorem over : Rows.chainStaysRow.holds Try.pinned (OpenSpec.ofChange Rows.chainStaysSpec) :=
  OpenClaim.holds_of_wide 6 Try.f6 rfl rfl rfl rfl rfl rfl rfl ⟨rfl, rfl, rfl, rfl, rfl⟩ rfl rfl rfl rfl rfl (by kernel_rfl) Try.func6 (by kernel_rfl)
    (of_decide_eq_true (by kernel_rfl)) (by unfold Func.isWrapper; first | (rw [if_pos (by decide +kernel)]; kernel_rfl) | (rw [if_neg (by decide +kernel)]; exact ⟨rfl, rfl⟩))
    (fun os started H enc _ => lifted os started H enc)
/-- The statement. -/
theorem proved : Rows.ChainStaysSaid := over
end chainStays
namespace chainNext
theorem own : ownKnob Try.prog.godebug = none := by kernel_rfl
set_option maxRecDepth 100000 in
theorem lifted (os : Os) (started : os.Started) (H : Type) (enc : TypeId × Value → H) :
    ReturnsInHanded {} Try.checked os 3 .any (Rows.chainNextSpec.pre6 enc Try.prog Try.f3 Rows.chainNextRow.domain false) (Rows.chainNextSpec.post enc Try.prog Try.f3 false true false false) := by
  refine returnsInHanded_of_change_sized (C := Try.checked) own started (by kernel_rfl) Try.func3
    (ChangeSpec.witness6 (enc := enc) (C := Try.checked) false ⟨#[], #[.agg #[.int .i64 0, .int .i64 0, .slice none 0 0, .int .i64 0, .slice none 0 0, .int .i64 0, .slice none 0 0, .int .i64 0, .slice none 0 0, .int .i64 0], .agg #[.slice none 0 0, .slice none 0 0], .int .i64 0], []⟩ 8 (by kernel_rfl) (by kernel_rfl) (by kernel_rfl) (by kernel_rfl)) ?_
  intro W base args ds gs before hval0 hW hcnd hsz _
  have hval : ∀ (j : Nat) t v, Try.f3.params[j]? = some t → args[j]? = some v → Value.okWide Try.prog W .any base t v := hval0
  have hW' := hW
  obtain ⟨p, q, hA0, hV, rfl, hfz, hnd⟩ := hW
  have hA : DataW.TrodAll enc Try.prog W 0 (fun _ => true) true Try.f3.params.toList args.toList ds p := hA0
  have hk := hA
  have hlt : ∀ x ∈ p, x.block < W.heap.size := fun x hx => hW'.lt x (List.mem_append.2 (.inl hx))
  rw [Try.params3] at hA hval hk
  obtain ⟨v0, vs0, d0, ds0, p0, q0, hargs, rfl, rfl, h0, r0⟩ := trodAll_cons hA
  obtain ⟨v1, vs1, d1, ds1, p1, q1, rfl, rfl, rfl, h1, r1⟩ := trodAll_cons r0
  obtain ⟨v2, vs2, d2, ds2, p2, q2, rfl, rfl, rfl, h2, r2⟩ := trodAll_cons r1
  obtain ⟨rfl, rfl, rfl⟩ := trodAll_nil r2
  obtain rfl : args = #[v0, v1, v2] := by cases args; simp_all
  obtain ⟨rfl, rfl⟩ := trodVars_none hV
  obtain ⟨cs0, rfl, tr0⟩ := arg_struct Try.underlying27 (hval 0 27 v0 rfl rfl) h0 (light_of (j := 0) hsz rfl rfl)
  obtain ⟨ver0, exp0, l0, rfl, rl0, ro0, ru0, rk0, rr0⟩ := root_open tr0
  obtain ⟨cs1, rfl, tr1⟩ := arg_struct Try.underlying31 (hval 1 31 v1 rfl rfl) h1 (light_of (j := 1) hsz rfl rfl)
  obtain ⟨pb1, mv1, body1, ms1, rfl, rb1, bl1, by1, rm1, ml1, ma1, mr1⟩ := env_open tr1
  obtain ⟨a2, rfl, _, _, w2⟩ := open_int Try.underlying3 (hval 2 3 v2 rfl rfl) h2
  refine (chainNext_any pb1 mv1 ver0 exp0 a2 l0 body1 ms1 W rl0 ro0 ru0 rk0 rr0 bl1 by1 ma1 ml1 rb1 rm1 mr1).mono fun e W' ⟨he, g⟩ => ?_
  subst he
  have bel := g.below
  exact ⟨_, rfl, _, _, _, [], _, [], hW', trodAll_mk1 (shut_bool Try.underlying4 _), all_below laid bel _ _ _ _ (all_rows (by kernel_rfl)) hk hlt (fun x hx => by simpa using hlt x hx), rfl, bel.frame _, fun h => by cases h⟩
theorem over : Rows.chainNextRow.holds Try.pinned (OpenSpec.ofChange Rows.chainNextSpec) :=
  OpenClaim.holds_of_wide 3 Try.f3 rfl rfl rfl rfl rfl rfl rfl ⟨rfl, rfl, rfl, rfl, rfl⟩ rfl rfl rfl rfl rfl (by kernel_rfl) Try.func3 (by kernel_rfl)
    (of_decide_eq_true (by kernel_rfl)) (by unfold Func.isWrapper; first | (rw [if_pos (by decide +kernel)]; kernel_rfl) | (rw [if_neg (by decide +kernel)]; exact ⟨rfl, rfl⟩))
    (fun os started H enc _ => lifted os started H enc)
/-- The statement. -/
theorem proved : Rows.ChainNextSaid := over
end chainNext
namespace chainFollows
theorem own : ownKnob Try.prog.godebug = none := by kernel_rfl
set_option maxRecDepth 100000 in
theorem lifted (os : Os) (started : os.Started) (H : Type) (enc : TypeId × Value → H) :
    ReturnsInHanded {} Try.checked os 4 .any (Rows.chainFollowsSpec.pre6 enc Try.prog Try.f4 Rows.chainFollowsRow.domain false) (Rows.chainFollowsSpec.post enc Try.prog Try.f4 false true false false) := by
  refine returnsInHanded_of_change_sized (C := Try.checked) own started (by kernel_rfl) Try.func4
    (ChangeSpec.witness6 (enc := enc) (C := Try.checked) false ⟨#[], #[.agg #[.int .i64 0, .int .i64 0, .slice none 0 0, .int .i64 0, .slice none 0 0, .int .i64 0, .slice none 0 0, .int .i64 0, .slice none 0 0, .int .i64 0], .slice none 0 0], []⟩ 8 (by kernel_rfl) (by kernel_rfl) (by kernel_rfl) (by kernel_rfl)) ?_
  intro W base args ds gs before hval0 hW hcnd hsz _
  have hval : ∀ (j : Nat) t v, Try.f4.params[j]? = some t → args[j]? = some v → Value.okWide Try.prog W .any base t v := hval0
  have hW' := hW
  obtain ⟨p, q, hA0, hV, rfl, hfz, hnd⟩ := hW
  have hA : DataW.TrodAll enc Try.prog W 0 (fun _ => true) true Try.f4.params.toList args.toList ds p := hA0
  have hk := hA
  have hlt : ∀ x ∈ p, x.block < W.heap.size := fun x hx => hW'.lt x (List.mem_append.2 (.inl hx))
  rw [Try.params4] at hA hval hk
  obtain ⟨v0, vs0, d0, ds0, p0, q0, hargs, rfl, rfl, h0, r0⟩ := trodAll_cons hA
  obtain ⟨v1, vs1, d1, ds1, p1, q1, rfl, rfl, rfl, h1, r1⟩ := trodAll_cons r0
  obtain ⟨rfl, rfl, rfl⟩ := trodAll_nil r1
  obtain rfl : args = #[v0, v1] := by cases args; simp_all
  obtain ⟨rfl, rfl⟩ := trodVars_none hV
  obtain ⟨cs0, rfl, tr0⟩ := arg_struct Try.underlying27 (hval 0 27 v0 rfl rfl) h0 (light_of (j := 0) hsz rfl rfl)
  obtain ⟨ver0, exp0, l0, rfl, rl0, ro0, ru0, rk0, rr0⟩ := root_open tr0
  obtain ⟨vs1, n1, rd1, e1, m1, t1⟩ := rd_of Try.underlying43 (by rw [show Try.prog.cellsOf 31 = 2 from by kernel_rfl]; decide) (hval 1 43 v1 rfl rfl) h1 (light_of (j := 1) hsz rfl rfl)
  rw [show Try.prog.cellsOf 31 = 2 from by kernel_rfl] at rd1 e1 t1
  rw [show Try.prog.bytesOf 31 = 48 from by kernel_rfl] at m1
  have hreach : reachBytes = 140737488351232 := rfl
  obtain ⟨es1, rfl, en1, eo1, er1⟩ := envs_open n1 vs1 e1 t1
  refine (chainFollows_any ver0 exp0 l0 v1 es1 W rl0 ro0 ru0 rk0 rr0 eo1 (by omega) rd1 er1).mono fun e W' ⟨he, g⟩ => ?_
  subst he
  have bel := g.below
  exact ⟨_, rfl, _, _, _, [], _, [], hW', trodAll_mk1 (shut_bool Try.underlying4 _), all_below laid bel _ _ _ _ (all_rows (by kernel_rfl)) hk hlt (fun x hx => by simpa using hlt x hx), rfl, bel.frame _, fun h => by cases h⟩
theorem over : Rows.chainFollowsRow.holds Try.pinned (OpenSpec.ofChange Rows.chainFollowsSpec) :=
  OpenClaim.holds_of_wide 4 Try.f4 rfl rfl rfl rfl rfl rfl rfl ⟨rfl, rfl, rfl, rfl, rfl⟩ rfl rfl rfl rfl rfl (by kernel_rfl) Try.func4 (by kernel_rfl)
    (of_decide_eq_true (by kernel_rfl)) (by unfold Func.isWrapper; first | (rw [if_pos (by decide +kernel)]; kernel_rfl) | (rw [if_neg (by decide +kernel)]; exact ⟨rfl, rfl⟩))
    (fun os started H enc _ => lifted os started H enc)
/-- The statement. -/
theorem proved : Rows.ChainFollowsSaid := over
end chainFollows
end Go.Proofs.Ytgfnmolbagilmaa
