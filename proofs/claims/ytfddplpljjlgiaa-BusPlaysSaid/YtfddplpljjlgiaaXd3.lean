/- The statement's proof, part 3: what its walks and its plain laws need. -/
import Derived.Test.YtfddplpljjlgiaaRows
import Derived.Tactics
import Derived.Deep.Quiet
import Derived.StillTail
import Derived.Laws.World
import Derived.Laws.Sem
import Derived.Laws.Entries
import Derived.Below
import Derived.Deep.LoopGhost
import Derived.Laws.BytesString
import Derived.Laws.IdiomStrings
import Derived.KernelRfl
import Derived.Carry
import Derived.OpenShut
import Derived.ProofKit
import Derived.ChangeSame
import Derived.HandedShaped
import Derived.SizedLaws
import Derived.Test.YtfddplpljjlgiaaProg
import Derived.Shelf.SlSortCmp.InsertionK
import Derived.Shelf.SlSortFuncK.SWK
import Derived.Sort.AssemblyPlain
import Derived.Shelf.SlSortCmp.PdqK
import Derived.Laws.Strings
import Derived.Test.YtfddplpljjlgiaaXd2
namespace Go.Proofs.Ytfddplpljjlgiaa
open Go Go.RowKit Fw
open Bs
set_option linter.unusedVariables false
set_option linter.unusedSimpArgs false
set_option maxRecDepth 20000 in
set_option maxHeartbeats 2000000 in
theorem rsend_arg (b : Nat) (fv dv : Value) (fl : List Bs.W) (id : Int) (data : List Int) (w : World) (hn : ¬ Bs.isF id data) (hdl : data.length ≤ 140737488351232) (hb : w.heap[b]? = some (.cells (List.toArray [fv]) 42)) (h : Rd w fv 2 (Bs.fflat fl)) (hof : FE.off b (.sl (fv) 2 (Bs.fflat (fl)))) (hd : Rd w dv 1 (ints .u8 data)) : Calls Try.prog 13 #[.pointer (some ⟨b, 0, none⟩), .agg (List.toArray [.int .i64 id, dv])] w (PostV w (.int .i64 1)) := by
  have hsd := rd_shape hd
  refine calls_at (vs := [.pointer (some ⟨b, 0, none⟩), .agg (List.toArray [.int .i64 id, dv])]) (X := []) (H := []) (F := [(21, .mem b 0 [fv]), (22, .sl (dv) 1 (ints .u8 (data))), (20, .sl (fv) 2 (Bs.fflat (fl)))]) 69 Try.func13 rfl rfl rfl (((Sat.rd0 20 h).more 22 hd).read (f := .mem b 0 [fv]) 21 (lies_blk hb) off_nil) ?_
  refine cd_seq ?_
  refine cd_region ?_
  refine st_box (h := 3) rfl rfl rfl rfl (fun b3 => ?_)
  refine st (ev_assign rfl) rfl rfl rfl ?_
  refine op_nil ?_
  refine ax_then ?_
  refine At.regs (L' := [(0, _), (3, _), (4, _)]) (.cons rfl (.cons rfl (.cons rfl (.nil _)))) ?_
  refine cd_seq ?_
  refine cd_block ?_
  refine cd_seq ?_
  refine at_freeze_blk (h := 3) (H' := []) 3 rfl (.nil _) rfl ?_
  refine cd_region ?_
  refine st (ld_mem_all (h := 3) ty29 rfl rfl rfl rfl) rfl rfl rfl ?_
  refine st_callv has20 rfl (fun w1 sw => ris_any id dv data w1 hdl (sw.sl_rd (h := 22) rfl)) rfl rfl ?_
  refine st (ev_not_if rfl) rfl rfl rfl ?_
  refine st (ev_assign rfl) rfl rfl rfl ?_
  refine op_nil ?_
  refine ax_then ?_
  refine At.regs (L' := [(0, _), (3, _), (4, _), (7, _)]) (.cons rfl (.cons rfl (.cons rfl (.cons rfl (.nil _))))) ?_
  refine cd_if_t rfl (hn) ?_
  refine cd_seq ?_
  refine cd_region ?_
  refine st (ev_assign rfl) rfl rfl rfl ?_
  refine op_nil ?_
  refine ax_then ?_
  refine At.regs (L' := [(0, _), (3, _), (4, _)]) (.cons rfl (.cons rfl (.cons rfl (.nil _)))) ?_
  refine cd_ret ?_
  refine ax_block_ret ?_
  refine ax_then_ret ?_
  refine rt_tmp (.inl rfl) Try.results13 rfl ?_
  exact fun w1 sw => ⟨rfl, sw.gives (.nil _)⟩
set_option maxRecDepth 20000 in
set_option maxHeartbeats 2000000 in
theorem rsend_full (b : Nat) (fv dv : Value) (fl : List Bs.W) (id : Int) (data : List Int) (w : World) (hF : Bs.isF id data) (hfull : 64 ≤ fl.length) (hb : w.heap[b]? = some (.cells (List.toArray [fv]) 42)) (h : Rd w fv 2 (Bs.fflat fl)) (hof : FE.off b (.sl (fv) 2 (Bs.fflat (fl)))) (hd : Rd w dv 1 (ints .u8 data)) : Calls Try.prog 13 #[.pointer (some ⟨b, 0, none⟩), .agg (List.toArray [.int .i64 id, dv])] w (PostV w (.int .i64 12)) := by
  have hsd := rd_shape hd
  have hdl : data.length ≤ 140737488351232 := by have := hF.2.2; omega
  refine calls_at (vs := [.pointer (some ⟨b, 0, none⟩), .agg (List.toArray [.int .i64 id, dv])]) (X := []) (H := []) (F := [(21, .mem b 0 [fv]), (22, .sl (dv) 1 (ints .u8 (data))), (20, .sl (fv) 2 (Bs.fflat (fl)))]) 69 Try.func13 rfl rfl rfl (((Sat.rd0 20 h).more 22 hd).read (f := .mem b 0 [fv]) 21 (lies_blk hb) off_nil) ?_
  refine cd_seq ?_
  refine cd_region ?_
  refine st_box (h := 3) rfl rfl rfl rfl (fun b3 => ?_)
  refine st (ev_assign rfl) rfl rfl rfl ?_
  refine op_nil ?_
  refine ax_then ?_
  refine At.regs (L' := [(0, _), (3, _), (4, _)]) (.cons rfl (.cons rfl (.cons rfl (.nil _)))) ?_
  refine cd_seq ?_
  refine cd_block ?_
  refine cd_seq ?_
  refine at_freeze_blk (h := 3) (H' := []) 3 rfl (.nil _) rfl ?_
  refine cd_region ?_
  refine st (ld_mem_all (h := 3) ty29 rfl rfl rfl rfl) rfl rfl rfl ?_
  refine st_callv has20 rfl (fun w1 sw => ris_any id dv data w1 hdl (sw.sl_rd (h := 22) rfl)) rfl rfl ?_
  refine st (ev_not_if rfl) rfl rfl rfl ?_
  refine st (ev_assign rfl) rfl rfl rfl ?_
  refine op_nil ?_
  refine ax_then ?_
  refine At.regs (L' := [(0, _), (3, _), (4, _), (7, _)]) (.cons rfl (.cons rfl (.cons rfl (.cons rfl (.nil _))))) ?_
  refine cd_if_f rfl (fun h => h hF) ?_
  refine cd_seq ?_
  refine cd_region ?_
  refine st (ev_move rfl) rfl rfl rfl ?_
  refine st (ev_nilCheck rfl) rfl rfl rfl ?_
  refine st (ev_fieldAddr (b := _) Try.underlying42 (f := _) rfl ty40 (by decide) rfl) rfl rfl rfl ?_
  refine st (ld_mem1 (h := 21) ty40 rfl rfl rfl (Nat.zero_add _).symm rfl) rfl rfl rfl ?_
  refine st (ev_len_rd (h := 20) (n := fl.length) Try.underlying40 rfl rfl (Bs.fflat_len fl) (by decide)) rfl rfl rfl ?_
  refine st (ev_geq rfl rfl) rfl rfl rfl ?_
  refine st (ev_assign rfl) rfl rfl rfl ?_
  refine op_nil ?_
  refine ax_then ?_
  refine At.regs (L' := [(0, _), (3, _), (4, _), (11, _)]) (.cons rfl (.cons rfl (.cons rfl (.cons rfl (.nil _))))) ?_
  refine cd_if_t rfl (by omega) ?_
  refine cd_seq ?_
  refine cd_region ?_
  refine st (ev_assign rfl) rfl rfl rfl ?_
  refine op_nil ?_
  refine ax_then ?_
  refine At.regs (L' := [(0, _), (3, _), (4, _)]) (.cons rfl (.cons rfl (.cons rfl (.nil _)))) ?_
  refine cd_ret ?_
  refine ax_block_ret ?_
  refine ax_then_ret ?_
  refine rt_tmp (.inl rfl) Try.results13 rfl ?_
  exact fun w1 sw => ⟨rfl, sw.gives (.nil _)⟩
set_option maxRecDepth 20000 in
set_option maxHeartbeats 8000000 in
theorem rsend_ok (b : Nat) (fv dv : Value) (fl : List Bs.W) (id : Int) (data : List Int) (w : World) (hF : Bs.isF id data) (hlt64 : fl.length < 64) (ho : ∀ x, x ∈ fl → x.dv.oneCell' = true) (hb : w.heap[b]? = some (.cells (List.toArray [fv]) 42)) (h : Rd w fv 2 (Bs.fflat fl)) (hof : FE.off b (.sl (fv) 2 (Bs.fflat (fl)))) (hd : Rd w dv 1 (ints .u8 data)) (hof2 : FE.off b (.sl (dv) 1 (ints .u8 (data)))) : Calls Try.prog 13 #[.pointer (some ⟨b, 0, none⟩), .agg (List.toArray [.int .i64 id, dv])] w (PostRM (ι := Value × Value × Nat) w [b] (fun x => Bs.At_ fl id x.2.2 ∧ x.2.1.oneCell' = true) (fun _ => .int .i64 0) (fun x => [(2, .blk (b) (.cells ([x.1]).toArray 42))]) (fun x => [(x.1, 2, Bs.fflat (Bs.ins fl x.2.2 ⟨id, x.2.1, data, 0⟩)), (x.2.1, 1, ints .u8 data)])) := by
  have hsd := rd_shape hd
  have hdl : data.length ≤ 140737488351232 := by have := hF.2.2; omega
  have hdl8 := hF.2.2
  refine calls_at (vs := [.pointer (some ⟨b, 0, none⟩), .agg (List.toArray [.int .i64 id, dv])]) (X := [b]) (H := [(50, .blk (b) (.cells ([fv]).toArray 42))]) (F := [(22, .sl (dv) 1 (ints .u8 (data))), (20, .sl (fv) 2 (Bs.fflat (fl)))]) 69 Try.func13 rfl rfl rfl (((Sat.blk0 w 50 b _ hb).read (f := .sl (fv) 2 (Bs.fflat (fl))) 20 h (off_one (fun b' hb' => by obtain rfl := mem_one hb'; exact hof))).read (f := .sl (dv) 1 (ints .u8 (data))) 22 hd (off_one (fun b' hb' => by obtain rfl := mem_one hb'; exact hof2))) ?_
  refine cd_seq ?_
  refine cd_region ?_
  refine st_box (h := 3) rfl rfl rfl rfl (fun b3 => ?_)
  refine st (ev_assign rfl) rfl rfl rfl ?_
  refine op_nil ?_
  refine ax_then ?_
  refine At.regs (L' := [(0, _), (3, _), (4, _)]) (.cons rfl (.cons rfl (.cons rfl (.nil _)))) ?_
  refine cd_seq ?_
  refine cd_block ?_
  refine cd_seq ?_
  refine at_freeze_blk (h := 3) (H' := [(50, _)]) 3 rfl (.cons rfl (.nil _)) rfl ?_
  refine cd_region ?_
  refine st (ld_mem_all (h := 3) ty29 rfl rfl rfl rfl) rfl rfl rfl ?_
  refine st_callv has20 rfl (fun w1 sw => ris_any id dv data w1 hdl (sw.sl_rd (h := 22) rfl)) rfl rfl ?_
  refine st (ev_not_if rfl) rfl rfl rfl ?_
  refine st (ev_assign rfl) rfl rfl rfl ?_
  refine op_nil ?_
  refine ax_then ?_
  refine At.regs (L' := [(0, _), (3, _), (4, _), (7, _)]) (.cons rfl (.cons rfl (.cons rfl (.cons rfl (.nil _))))) ?_
  refine cd_if_f rfl (fun h => h hF) ?_
  refine cd_seq ?_
  refine cd_region ?_
  refine st (ev_move rfl) rfl rfl rfl ?_
  refine st (ev_nilCheck rfl) rfl rfl rfl ?_
  refine st (ev_fieldAddr (b := _) Try.underlying42 (f := _) rfl ty40 (by decide) rfl) rfl rfl rfl ?_
  refine st (ld_blk1 (h := 50) ty40 rfl rfl rfl rfl) rfl rfl rfl ?_
  refine st (ev_len_rd (h := 20) (n := fl.length) Try.underlying40 rfl rfl (Bs.fflat_len fl) (by decide)) rfl rfl rfl ?_
  refine st (ev_geq rfl rfl) rfl rfl rfl ?_
  refine st (ev_assign rfl) rfl rfl rfl ?_
  refine op_nil ?_
  refine ax_then ?_
  refine At.regs (L' := [(0, _), (3, _), (4, _), (11, _)]) (.cons rfl (.cons rfl (.cons rfl (.cons rfl (.nil _))))) ?_
  refine cd_if_f rfl (by omega) ?_
  refine cd_skip ?_
  refine ax_block ?_
  refine ax_then ?_
  refine At.regs (L' := [(0, _), (3, _), (4, _)]) (.cons rfl (.cons rfl (.cons rfl (.nil _)))) ?_
  refine cd_seq ?_
  refine cd_region ?_
  refine st (ev_move rfl) rfl rfl rfl ?_
  refine st (ev_nilCheck rfl) rfl rfl rfl ?_
  refine st (ev_fieldAddr (b := _) Try.underlying42 (f := _) rfl ty40 (by decide) rfl) rfl rfl rfl ?_
  refine st (ld_blk1 (h := 50) ty40 rfl rfl rfl rfl) rfl rfl rfl ?_
  refine st (ev_len_rd (h := 20) (n := fl.length) Try.underlying40 rfl rfl (Bs.fflat_len fl) (by decide)) rfl rfl rfl ?_
  refine st (ev_assign rfl) rfl rfl rfl ?_
  refine op_nil ?_
  refine ax_then ?_
  refine At.regs (L' := [(0, _), (3, _), (4, _), (5, _)]) (.cons rfl (.cons rfl (.cons rfl (.cons rfl (.nil _))))) ?_
  refine cd_join (ι := Nat) (fun i => Bs.At_ fl id i) (fun i => [(0, .pointer (some ⟨b, 0, none⟩)), (3, .pointer (some ⟨b3, 0, none⟩)), (5, .int .i64 (i : Nat))]) (fun i => [(50, .blk (b) (.cells ([fv]).toArray 42))]) (fun i => [(3, .mem b3 0 [.int .i64 id, dv]), (20, .sl (fv) 2 (Bs.fflat (fl))), (22, .sl (dv) 1 (ints .u8 (data)))]) ?_ (fun i hj => ?_)
  ·
    refine cd_block ?_
    refine cd_loop (ι := Nat) (fun i => i ≤ fl.length ∧ ∀ j, i ≤ j → j < fl.length → id < (fl.getD j Bs.w0).id) (fun i => i)
        (fun i => [(0, .pointer (some ⟨b, 0, none⟩)), (3, .pointer (some ⟨b3, 0, none⟩)), (5, .int .i64 (i : Nat))])
        (fun i => [(50, .blk (b) (.cells ([fv]).toArray 42))])
        (fun i => [(3, .mem b3 0 [.int .i64 id, dv]), (20, .sl (fv) 2 (Bs.fflat (fl))), (22, .sl (dv) 1 (ints .u8 (data)))])
        fl.length (⟨Nat.le_refl _, fun j h1 h2 => by omega⟩) (.cons rfl (.cons rfl (.cons rfl (.nil _)))) (.cons rfl (.nil _)) (.cons rfl (.cons rfl (.cons rfl (.nil _)))) (fun i hi => ?_)
    obtain ⟨hij, hi2⟩ := hi
    refine cd_seq ?_
    refine cd_seq ?_
    refine cd_mixp [(302, .mem b 0 [fv]), (20, .sl (fv) 2 (Bs.fflat (fl))), (22, .sl (dv) 1 (ints .u8 (data))), (3, .mem b3 0 [.int .i64 id, dv])] hmix ?_
    refine mxp (i := 0) rfl (by decide +kernel) (by decide +kernel) (by decide +kernel) rfl (fun w0 => ev_move rfl) rfl rfl (fun w sw => CF.cons (lies_blk (sw.blk_eq (h := 50) rfl)) (sw.cf (.cons rfl (.cons rfl (.cons rfl (.nil _)))))) ?_
    refine mxp (i := 1) rfl (by decide +kernel) (by decide +kernel) (by decide +kernel) rfl (fun w0 => ev_gtr rfl rfl) rfl rfl (fun w sw => CF.cons (lies_blk (sw.blk_eq (h := 50) rfl)) (sw.cf (.cons rfl (.cons rfl (.cons rfl (.nil _)))))) ?_
    refine mxp (i := 2) rfl (by decide +kernel) (by decide +kernel) (by decide +kernel) rfl (fun w0 => ev_move rfl) rfl rfl (fun w sw => CF.cons (lies_blk (sw.blk_eq (h := 50) rfl)) (sw.cf (.cons rfl (.cons rfl (.cons rfl (.nil _)))))) ?_
    refine at_split_if (i := 25) rfl (fun hg25 => ?_) (fun hg25 => ?_)
    ·
      refine mxp (i := 3) rfl (by decide +kernel) (by decide +kernel) (by decide +kernel) rfl (fun w0 => ev_move rfl) rfl rfl (fun w sw => CF.cons (lies_blk (sw.blk_eq (h := 50) rfl)) (sw.cf (.cons rfl (.cons rfl (.cons rfl (.nil _)))))) ?_
      refine mxp (i := 4) rfl (by decide +kernel) (by decide +kernel) (by decide +kernel) rfl (fun w0 => ev_nilCheck rfl) rfl rfl (fun w sw => CF.cons (lies_blk (sw.blk_eq (h := 50) rfl)) (sw.cf (.cons rfl (.cons rfl (.cons rfl (.nil _)))))) ?_
      refine mxp (i := 5) rfl (by decide +kernel) (by decide +kernel) (by decide +kernel) rfl (fun w0 => ev_fieldAddr (b := _) Try.underlying42 (f := _) rfl ty40 (by decide) rfl) rfl rfl (fun w sw => CF.cons (lies_blk (sw.blk_eq (h := 50) rfl)) (sw.cf (.cons rfl (.cons rfl (.cons rfl (.nil _)))))) ?_
      refine mxp (i := 6) rfl (by decide +kernel) (by decide +kernel) (by decide +kernel) rfl (fun w0 => ld_mem1 (h := 302) ty40 rfl rfl rfl (Nat.zero_add _).symm rfl) rfl rfl (fun w sw => CF.cons (lies_blk (sw.blk_eq (h := 50) rfl)) (sw.cf (.cons rfl (.cons rfl (.cons rfl (.nil _)))))) ?_
      refine mxp (i := 7) rfl (by decide +kernel) (by decide +kernel) (by decide +kernel) rfl (fun w0 => ev_move rfl) rfl rfl (fun w sw => CF.cons (lies_blk (sw.blk_eq (h := 50) rfl)) (sw.cf (.cons rfl (.cons rfl (.cons rfl (.nil _)))))) ?_
      refine mxp (i := 8) rfl (by decide +kernel) (by decide +kernel) (by decide +kernel) rfl (fun w0 => ev_sub64 rfl rfl (by omega) (by omega)) rfl rfl (fun w sw => CF.cons (lies_blk (sw.blk_eq (h := 50) rfl)) (sw.cf (.cons rfl (.cons rfl (.cons rfl (.nil _)))))) ?_
      refine mxp (i := 9) rfl (by decide +kernel) (by decide +kernel) (by decide +kernel) rfl (fun w0 => ev_indexAddr_rd (h := 20) (n := fl.length) Try.underlying40 ty29 rfl rfl rfl (Bs.fflat_len fl) (by decide) (by omega) (by omega)) rfl rfl (fun w sw => CF.cons (lies_blk (sw.blk_eq (h := 50) rfl)) (sw.cf (.cons rfl (.cons rfl (.cons rfl (.nil _)))))) ?_
      refine mxp (i := 10) rfl (by decide +kernel) (by decide +kernel) (by decide +kernel) rfl (fun w0 => ev_fieldIn (n := 0) (k := ((i : Int) - 1).toNat * 2) Try.underlying29 rfl rfl rfl (fun w1 sw => sw.sl_rd (h := 20) rfl) (by rw [Bs.fflat_len]; omega) (fun b off hx => ev_fieldAddr (b := _) Try.underlying29 (f := _) rfl ty3 (by decide) hx)) rfl rfl (fun w sw => CF.cons (lies_blk (sw.blk_eq (h := 50) rfl)) (sw.cf (.cons rfl (.cons rfl (.cons rfl (.nil _)))))) ?_
      refine mxp (i := 11) rfl (by decide +kernel) (by decide +kernel) (by decide +kernel) rfl (fun w0 => ld_rd1 (h := 20) (k := ((i : Int) - 1).toNat * 2 + 0) ty3 rfl rfl rfl (by rw [show ((i : Int) - 1).toNat = i - 1 by omega]; exact (Bs.fflat_at (by omega)).1)) rfl rfl (fun w sw => CF.cons (lies_blk (sw.blk_eq (h := 50) rfl)) (sw.cf (.cons rfl (.cons rfl (.cons rfl (.nil _)))))) ?_
      refine mxp (i := 12) rfl (by decide +kernel) (by decide +kernel) (by decide +kernel) rfl (fun w0 => ev_fieldAddr (b := _) Try.underlying29 (f := _) rfl ty3 (by decide) rfl) rfl rfl (fun w sw => CF.cons (lies_blk (sw.blk_eq (h := 50) rfl)) (sw.cf (.cons rfl (.cons rfl (.cons rfl (.nil _)))))) ?_
      refine mxp (i := 13) rfl (by decide +kernel) (by decide +kernel) (by decide +kernel) rfl (fun w0 => ld_mem1 (h := 3) ty3 rfl rfl rfl (Nat.zero_add _).symm rfl) rfl rfl (fun w sw => CF.cons (lies_blk (sw.blk_eq (h := 50) rfl)) (sw.cf (.cons rfl (.cons rfl (.cons rfl (.nil _)))))) ?_
      refine mxp (i := 14) rfl (by decide +kernel) (by decide +kernel) (by decide +kernel) rfl (fun w0 => ev_gtr rfl rfl) rfl rfl (fun w sw => CF.cons (lies_blk (sw.blk_eq (h := 50) rfl)) (sw.cf (.cons rfl (.cons rfl (.cons rfl (.nil _)))))) ?_
      refine mxp (i := 15) rfl (by decide +kernel) (by decide +kernel) (by decide +kernel) rfl (fun w0 => ev_pick_t rfl rfl) rfl rfl (fun w sw => CF.cons (lies_blk (sw.blk_eq (h := 50) rfl)) (sw.cf (.cons rfl (.cons rfl (.cons rfl (.nil _)))))) ?_
      refine mxp_done (by decide +kernel) (fun w sw => CF.cons (lies_blk (sw.blk_eq (h := 50) rfl)) (sw.cf (.cons rfl (.cons rfl (.cons rfl (.nil _)))))) ?_
      refine ax_then ?_
      refine At.regs (L' := [(0, _), (3, _), (5, _), (23, _), (24, _), (25, _), (26, _), (27, _), (28, _), (29, _), (30, _), (31, _), (32, _), (33, _), (34, _), (35, _), (36, _), (37, _), (38, _)]) (.cons rfl (.cons rfl (.cons rfl (.cons rfl (.cons rfl (.cons rfl (.cons rfl (.cons rfl (.cons rfl (.cons rfl (.cons rfl (.cons rfl (.cons rfl (.cons rfl (.cons rfl (.cons rfl (.cons rfl (.cons rfl (.cons rfl (.nil _)))))))))))))))))))) ?_
      refine cd_if rfl (fun hc38 => ?_) (fun hc38 => ?_)
      ·
        refine cd_skip ?_
        refine ax_then ?_
        refine At.regs (L' := [(0, _), (3, _), (5, _), (23, _), (24, _), (25, _), (26, _), (27, _), (28, _), (29, _), (30, _), (31, _), (32, _), (33, _), (34, _), (35, _), (36, _), (37, _), (38, _)]) (.cons rfl (.cons rfl (.cons rfl (.cons rfl (.cons rfl (.cons rfl (.cons rfl (.cons rfl (.cons rfl (.cons rfl (.cons rfl (.cons rfl (.cons rfl (.cons rfl (.cons rfl (.cons rfl (.cons rfl (.cons rfl (.cons rfl (.nil _)))))))))))))))))))) ?_
        refine cd_block ?_
        refine cd_region ?_
        refine st (ev_move rfl) rfl rfl rfl ?_
        refine st (ev_sub64 rfl rfl (by omega) (by omega)) rfl rfl rfl ?_
        refine at_eq (i := 40) (v' := .int .i64 ((i - 1 : Nat) : Int)) rfl (by rw [show (i : Int) - 1 = ((i - 1 : Nat) : Int) by omega]) ?_
        refine st (ev_assign rfl) rfl rfl rfl ?_
        refine op_nil ?_
        refine ax_block ?_
        exact at_again (i - 1) (⟨by show i - 1 ≤ fl.length; omega, fun j h1 h2 => by
            by_cases hj : j = i - 1
            · subst hj; omega
            · exact hi2 j (by omega) h2⟩) (by show i - 1 < i; omega) (.cons rfl (.cons rfl (.cons rfl (.nil _)))) (.cons rfl (.nil _)) (.cons rfl (.cons rfl (.cons rfl (.nil _))))
      ·
        refine cd_exit ?_
        refine ax_then_exit ?_
        refine ax_then_exit ?_
        refine ax_block_hit ?_
        first | exact at_met (i) (⟨hij, hi2, by omega⟩) (.cons rfl (.cons rfl (.cons rfl (.nil _)))) (.cons rfl (.nil _)) (.cons rfl (.cons rfl (.cons rfl (.nil _))))
    ·
      refine mxp_skip (i := 3) rfl (by decide +kernel) (by decide +kernel) (by decide +kernel) rfl rfl rfl (fun w sw => CF.cons (lies_blk (sw.blk_eq (h := 50) rfl)) (sw.cf (.cons rfl (.cons rfl (.cons rfl (.nil _)))))) ?_
      refine mxp_skip (i := 4) rfl (by decide +kernel) (by decide +kernel) (by decide +kernel) rfl rfl rfl (fun w sw => CF.cons (lies_blk (sw.blk_eq (h := 50) rfl)) (sw.cf (.cons rfl (.cons rfl (.cons rfl (.nil _)))))) ?_
      refine mxp_skip (i := 5) rfl (by decide +kernel) (by decide +kernel) (by decide +kernel) rfl rfl rfl (fun w sw => CF.cons (lies_blk (sw.blk_eq (h := 50) rfl)) (sw.cf (.cons rfl (.cons rfl (.cons rfl (.nil _)))))) ?_
      refine mxp_skip (i := 6) rfl (by decide +kernel) (by decide +kernel) (by decide +kernel) rfl rfl rfl (fun w sw => CF.cons (lies_blk (sw.blk_eq (h := 50) rfl)) (sw.cf (.cons rfl (.cons rfl (.cons rfl (.nil _)))))) ?_
      refine mxp_skip (i := 7) rfl (by decide +kernel) (by decide +kernel) (by decide +kernel) rfl rfl rfl (fun w sw => CF.cons (lies_blk (sw.blk_eq (h := 50) rfl)) (sw.cf (.cons rfl (.cons rfl (.cons rfl (.nil _)))))) ?_
      refine mxp_skip (i := 8) rfl (by decide +kernel) (by decide +kernel) (by decide +kernel) rfl rfl rfl (fun w sw => CF.cons (lies_blk (sw.blk_eq (h := 50) rfl)) (sw.cf (.cons rfl (.cons rfl (.cons rfl (.nil _)))))) ?_
      refine mxp_skip (i := 9) rfl (by decide +kernel) (by decide +kernel) (by decide +kernel) rfl rfl rfl (fun w sw => CF.cons (lies_blk (sw.blk_eq (h := 50) rfl)) (sw.cf (.cons rfl (.cons rfl (.cons rfl (.nil _)))))) ?_
      refine mxp_skip (i := 10) rfl (by decide +kernel) (by decide +kernel) (by decide +kernel) rfl rfl rfl (fun w sw => CF.cons (lies_blk (sw.blk_eq (h := 50) rfl)) (sw.cf (.cons rfl (.cons rfl (.cons rfl (.nil _)))))) ?_
      refine mxp_skip (i := 11) rfl (by decide +kernel) (by decide +kernel) (by decide +kernel) rfl rfl rfl (fun w sw => CF.cons (lies_blk (sw.blk_eq (h := 50) rfl)) (sw.cf (.cons rfl (.cons rfl (.cons rfl (.nil _)))))) ?_
      refine mxp_skip (i := 12) rfl (by decide +kernel) (by decide +kernel) (by decide +kernel) rfl rfl rfl (fun w sw => CF.cons (lies_blk (sw.blk_eq (h := 50) rfl)) (sw.cf (.cons rfl (.cons rfl (.cons rfl (.nil _)))))) ?_
      refine mxp_skip (i := 13) rfl (by decide +kernel) (by decide +kernel) (by decide +kernel) rfl rfl rfl (fun w sw => CF.cons (lies_blk (sw.blk_eq (h := 50) rfl)) (sw.cf (.cons rfl (.cons rfl (.cons rfl (.nil _)))))) ?_
      refine mxp_skip (i := 14) rfl (by decide +kernel) (by decide +kernel) (by decide +kernel) rfl rfl rfl (fun w sw => CF.cons (lies_blk (sw.blk_eq (h := 50) rfl)) (sw.cf (.cons rfl (.cons rfl (.cons rfl (.nil _)))))) ?_
      refine mxp (i := 15) rfl (by decide +kernel) (by decide +kernel) (by decide +kernel) rfl (fun w0 => ev_pick_f rfl rfl) rfl rfl (fun w sw => CF.cons (lies_blk (sw.blk_eq (h := 50) rfl)) (sw.cf (.cons rfl (.cons rfl (.cons rfl (.nil _)))))) ?_
      refine mxp_done (by decide +kernel) (fun w sw => CF.cons (lies_blk (sw.blk_eq (h := 50) rfl)) (sw.cf (.cons rfl (.cons rfl (.cons rfl (.nil _)))))) ?_
      refine ax_then ?_
      refine At.regs (L' := [(0, _), (3, _), (5, _), (23, _), (24, _), (25, _), (26, _), (27, _), (28, _), (29, _), (30, _), (31, _), (32, _), (33, _), (34, _), (35, _), (36, _), (37, _), (38, _)]) (.cons rfl (.cons rfl (.cons rfl (.cons rfl (.cons rfl (.cons rfl (.cons rfl (.cons rfl (.cons rfl (.cons rfl (.cons rfl (.cons rfl (.cons rfl (.cons rfl (.cons rfl (.cons rfl (.cons rfl (.cons rfl (.cons rfl (.nil _)))))))))))))))))))) ?_
      refine cd_false rfl ?_
      refine cd_exit ?_
      refine ax_then_exit ?_
      refine ax_then_exit ?_
      refine ax_block_hit ?_
      first | exact at_met (i) (⟨hij, hi2, by omega⟩) (.cons rfl (.cons rfl (.cons rfl (.nil _)))) (.cons rfl (.nil _)) (.cons rfl (.cons rfl (.cons rfl (.nil _))))
  ·
    have hij := hj.1
    refine cd_seq ?_
    refine cd_mixp [(302, .mem b 0 [fv]), (20, .sl (fv) 2 (Bs.fflat (fl))), (22, .sl (dv) 1 (ints .u8 (data))), (3, .mem b3 0 [.int .i64 id, dv])] hmix ?_
    refine mxp (i := 1) rfl (by decide +kernel) (by decide +kernel) (by decide +kernel) rfl (fun w0 => ev_move rfl) rfl rfl (fun w sw => CF.cons (lies_blk (sw.blk_eq (h := 50) rfl)) (sw.cf (.cons rfl (.cons rfl (.cons rfl (.nil _)))))) ?_
    refine mxp (i := 2) rfl (by decide +kernel) (by decide +kernel) (by decide +kernel) rfl (fun w0 => ev_nilCheck rfl) rfl rfl (fun w sw => CF.cons (lies_blk (sw.blk_eq (h := 50) rfl)) (sw.cf (.cons rfl (.cons rfl (.cons rfl (.nil _)))))) ?_
    refine mxp (i := 3) rfl (by decide +kernel) (by decide +kernel) (by decide +kernel) rfl (fun w0 => ev_fieldAddr (b := _) Try.underlying42 (f := _) rfl ty40 (by decide) rfl) rfl rfl (fun w sw => CF.cons (lies_blk (sw.blk_eq (h := 50) rfl)) (sw.cf (.cons rfl (.cons rfl (.cons rfl (.nil _)))))) ?_
    refine mxp (i := 4) rfl (by decide +kernel) (by decide +kernel) (by decide +kernel) rfl (fun w0 => ld_mem1 (h := 302) ty40 rfl rfl rfl (Nat.zero_add _).symm rfl) rfl rfl (fun w sw => CF.cons (lies_blk (sw.blk_eq (h := 50) rfl)) (sw.cf (.cons rfl (.cons rfl (.cons rfl (.nil _)))))) ?_
    refine mxp (i := 5) rfl (by decide +kernel) (by decide +kernel) (by decide +kernel) rfl (fun w0 => ev_move rfl) rfl rfl (fun w sw => CF.cons (lies_blk (sw.blk_eq (h := 50) rfl)) (sw.cf (.cons rfl (.cons rfl (.cons rfl (.nil _)))))) ?_
    refine mxp (i := 6) rfl (by decide +kernel) (by decide +kernel) (by decide +kernel) rfl (fun w0 => ev_slice_rd_hi (n := fl.length) Try.underlying40 ty29 rfl rfl (fun w1 sw => sw.sl_rd (h := 20) rfl) (by decide) (Bs.fflat_len fl) (by omega) (by omega)) rfl rfl (fun w sw => CF.cons (lies_blk (sw.blk_eq (h := 50) rfl)) (sw.cf (.cons rfl (.cons rfl (.cons rfl (.nil _)))))) ?_
    refine at_eq (i := 47) (v' := cutAt 2 fv 0 i) rfl (by rw [Int.toNat_natCast]) ?_
    refine mxp (i := 8) rfl (by decide +kernel) (by decide +kernel) (by decide +kernel) rfl (fun w0 => ev_fieldAddr (b := _) Try.underlying29 (f := _) rfl ty3 (by decide) rfl) rfl rfl (fun w sw => CF.cons (lies_blk (sw.blk_eq (h := 50) rfl)) (sw.cf (.cons rfl (.cons rfl (.cons rfl (.nil _)))))) ?_
    refine mxp (i := 9) rfl (by decide +kernel) (by decide +kernel) (by decide +kernel) rfl (fun w0 => ld_mem1 (h := 3) ty3 rfl rfl rfl (Nat.zero_add _).symm rfl) rfl rfl (fun w sw => CF.cons (lies_blk (sw.blk_eq (h := 50) rfl)) (sw.cf (.cons rfl (.cons rfl (.cons rfl (.nil _)))))) ?_
    refine mxp (i := 11) rfl (by decide +kernel) (by decide +kernel) (by decide +kernel) rfl (fun w0 => ev_fieldAddr (b := _) Try.underlying29 (f := _) rfl ty27 (by decide) rfl) rfl rfl (fun w sw => CF.cons (lies_blk (sw.blk_eq (h := 50) rfl)) (sw.cf (.cons rfl (.cons rfl (.cons rfl (.nil _)))))) ?_
    refine mxp (i := 12) rfl (by decide +kernel) (by decide +kernel) (by decide +kernel) rfl (fun w0 => ld_mem1 (h := 3) ty27 rfl rfl rfl (Nat.zero_add _).symm rfl) rfl rfl (fun w sw => CF.cons (lies_blk (sw.blk_eq (h := 50) rfl)) (sw.cf (.cons rfl (.cons rfl (.cons rfl (.nil _)))))) ?_
    refine mxp_two (i := 0) (j := 10) (by decide +kernel) (fun w sw => CF.cons (lies_blk (sw.blk_eq (h := 50) rfl)) (sw.cf (.cons rfl (.cons rfl (.cons rfl (.nil _)))))) ?_ ?_
    ·
      refine wo (i := 0) rfl ?_
      refine st_buildSlice (h := 41) (cells := []) Try.underlying40 ty29 rfl (by decide) (fill_nil.trans (by simp)) rfl rfl rfl (fun b41 => ?_)
      refine op_nil ?_
      refine ax_then ?_
      refine mxp_two (i := 7) (j := 10) (by decide +kernel) (fun w sw => CF.cons (lies_blk (sw.blk_eq (h := 50) rfl)) (sw.cf (.cons rfl (.cons rfl (.cons rfl (.nil _)))))) ?_ ?_
      ·
        refine wo (i := 7) rfl ?_
        refine st_append (n := 0) (m := i) (h := 41) (cs := Bs.fflat (fl.take i)) Try.underlying40 Try.underlying40 ty29 rfl rfl rfl rfl (fun w1 sw => Bs.fcut_lo (sw.sl_rd (h := 20) rfl) hij) (by decide) rfl (by rw [Bs.fflat_len, List.length_take, Nat.min_eq_left hij]) (by omega) (by decide) (Bs.fflat_one (fun x hx => ho x (List.mem_of_mem_take hx))) rfl rfl (fun v48 => ?_)
        refine at_heq (i := 41) (v' := .own (v48) 29 2 (Bs.fflat (fl.take i))) rfl (by rw [List.nil_append]) ?_
        refine op_nil ?_
        refine ax_then ?_
        refine mxp_one (i := 10) (by decide +kernel) (fun w sw => CF.cons (lies_blk (sw.blk_eq (h := 50) rfl)) (sw.cf (.cons rfl (.cons rfl (.cons rfl (.nil _)))))) ?_
        refine wo (i := 10) rfl ?_
        refine st_buildSlice (h := 51) (cells := []) Try.underlying27 ty5 rfl (by decide) (fill_nil.trans (by simp)) rfl rfl rfl (fun b51 => ?_)
        refine op_nil ?_
        refine ax_then ?_
        refine mxp_one (i := 13) (by decide +kernel) (fun w sw => CF.cons (lies_blk (sw.blk_eq (h := 50) rfl)) (sw.cf (.cons rfl (.cons rfl (.cons rfl (.nil _)))))) ?_
        refine wo (i := 13) rfl ?_
        refine st_append (n := 0) (m := data.length) (h := 51) (cs := ints .u8 data) Try.underlying27 Try.underlying27 ty5 rfl rfl rfl rfl (fun w1 sw => sw.sl_rd (h := 22) rfl) (by decide) rfl (by rw [ints_length]; omega) (by omega) (by decide) (ints_one _ _) rfl rfl (fun v54 => ?_)
        refine at_heq (i := 51) (v' := .own (v54) 5 1 (ints .u8 (data))) rfl (by rw [List.nil_append]) ?_
        refine at_own_shape (h := 51) rfl (fun hs54 => ?_)
        refine op_nil ?_
        refine ax_then ?_
        refine mxp (i := 14) rfl (by decide +kernel) (by decide +kernel) (by decide +kernel) rfl (fun w0 => ev_build_struct ty29 rfl pl29 rfl ((fill_put (i := 0) (off := 0) (n := 1) (vs := [.int .i64 id]) rfl rfl rfl (Nat.le_of_ble_eq_true rfl)).trans ((fill_put (i := 1) (off := 1) (n := 1) (vs := [v54]) rfl hs54.1 rfl (Nat.le_of_ble_eq_true rfl)).trans fill_nil))) rfl rfl (fun w sw => CF.cons (lies_blk (sw.blk_eq (h := 50) rfl)) (sw.cf (.cons rfl (.cons rfl (.cons rfl (.nil _)))))) ?_
        refine at_eq (i := 55) (v' := .agg (List.toArray [.int .i64 id, v54])) rfl rfl ?_
        refine mxp_one (i := 15) (by decide +kernel) (fun w sw => CF.cons (lies_blk (sw.blk_eq (h := 50) rfl)) (sw.cf (.cons rfl (.cons rfl (.cons rfl (.nil _)))))) ?_
        refine wo (i := 15) rfl ?_
        refine st_bs1 (h := 56) (cs := [.int .i64 id, v54]) Try.underlying40 ty29 rfl rfl rfl (by decide) (by decide) rfl rfl (fun b56 => ?_)
        refine op_nil ?_
        refine ax_then ?_
        refine mxp_one (i := 16) (by decide +kernel) (fun w sw => CF.cons (lies_blk (sw.blk_eq (h := 50) rfl)) (sw.cf (.cons rfl (.cons rfl (.cons rfl (.nil _)))))) ?_
        refine wo (i := 16) rfl ?_
        refine st_append (n := i) (m := 1) (h := 41) (cs := [.int .i64 id, v54]) Try.underlying40 Try.underlying40 ty29 rfl rfl rfl rfl (fun w1 sw => sw.own_rd (h := 56) rfl) (by decide) (by rw [Bs.fflat_len, List.length_take, Nat.min_eq_left hij]) rfl (by omega) (by decide) (by intro u hu; simp only [List.mem_cons, List.not_mem_nil, or_false] at hu; rcases hu with rfl | rfl; rfl; exact hs54.2) rfl rfl (fun v57 => ?_)
        refine at_heq (i := 41) (v' := .own (v57) 29 2 (Bs.fflat ((fl.take i ++ [(⟨id, v54, data, 0⟩ : Bs.W)])))) rfl (congrArg (Ent.own v57 29 2) (Bs.fflat_snoc (fl.take i) (⟨id, v54, data, 0⟩ : Bs.W))) ?_
        refine op_nil ?_
        refine ax_then ?_
        refine mxp (i := 17) rfl (by decide +kernel) (by decide +kernel) (by decide +kernel) rfl (fun w0 => ev_assign rfl) rfl rfl (fun w sw => CF.cons (lies_blk (sw.blk_eq (h := 50) rfl)) (sw.cf (.cons rfl (.cons rfl (.cons rfl (.nil _)))))) ?_
        refine mxp_done (by decide +kernel) (fun w sw => CF.cons (lies_blk (sw.blk_eq (h := 50) rfl)) (sw.cf (.cons rfl (.cons rfl (.cons rfl (.nil _)))))) ?_
        refine ax_then ?_
        refine At.regs (L' := [(0, _), (5, _), (6, _)]) (.cons rfl (.cons rfl (.cons rfl (.nil _)))) ?_
        refine cd_seq ?_
        refine cd_region ?_
        refine st (ev_move rfl) rfl rfl rfl ?_
        refine st (ev_move rfl) rfl rfl rfl ?_
        refine st (ev_move rfl) rfl rfl rfl ?_
        refine st (ev_nilCheck rfl) rfl rfl rfl ?_
        refine st (ev_fieldAddr (b := _) Try.underlying42 (f := _) rfl ty40 (by decide) rfl) rfl rfl rfl ?_
        refine st (ld_blk1 (h := 50) ty40 rfl rfl rfl rfl) rfl rfl rfl ?_
        refine st (ev_move rfl) rfl rfl rfl ?_
        refine st (ev_slice_rd_lo (n := fl.length) Try.underlying40 ty29 rfl rfl (fun w1 sw => sw.sl_rd (h := 20) rfl) (by decide) (Bs.fflat_len fl) (by omega) (by omega)) rfl rfl rfl ?_
        refine at_eq (i := 65) (v' := cutAt 2 fv i fl.length) rfl (by rw [Int.toNat_natCast]) ?_
        refine st_append (n := i + 1) (m := fl.length - i) (h := 41) (cs := Bs.fflat (fl.drop i)) Try.underlying40 Try.underlying40 ty29 rfl rfl rfl rfl (fun w1 sw => Bs.fcut_hi (sw.sl_rd (h := 20) rfl) hij) (by decide) (by rw [Bs.fflat_len, List.length_append, List.length_take, Nat.min_eq_left hij]; rfl) (by rw [Bs.fflat_len, List.length_drop]) (by omega) (by decide) (Bs.fflat_one (fun x hx => ho x (List.mem_of_mem_drop hx))) rfl rfl (fun v66 => ?_)
        refine at_heq (i := 41) (v' := .own (v66) 29 2 (Bs.fflat (Bs.ins fl i (⟨id, v54, data, 0⟩ : Bs.W)))) rfl (congrArg (Ent.own v66 29 2) (by rw [Bs.fflat_append]; exact congrArg Bs.fflat (by simp [Bs.ins]))) ?_
        refine at_own_shape (h := 41) rfl (fun hs66 => ?_)
        refine st (ev_nilCheck rfl) rfl rfl rfl ?_
        refine st (ev_fieldAddr (b := _) Try.underlying42 (f := _) rfl ty40 (by decide) rfl) rfl rfl rfl ?_
        refine st_store1 50 ty40 rfl rfl rfl hs66.2 (show 0 < 1 from by decide) rfl ?_
        refine at_heq (i := 50) (v' := .blk (b) (.cells ([v66]).toArray 42)) rfl rfl ?_
        refine op_nil ?_
        refine ax_then ?_
        refine At.regs (L' := []) (.nil _) ?_
        refine cd_seq ?_
        refine at_rows_nil 200 ?_
        refine at_rows_own (h := 51) (i := 200) (H' := [(50, _), (41, _)]) rfl rfl (.cons rfl (.cons rfl (.nil _))) rfl (fun b' hb' => ⟨50, _, rfl, by rw [mem_one hb']; simp [Ent.ids]⟩) (fun hfa => ?_)
        refine at_rows_own (h := 41) (i := 200) (H' := [(50, _)]) rfl rfl (.cons rfl (.nil _)) rfl (fun b' hb' => ⟨50, _, rfl, by rw [mem_one hb']; simp [Ent.ids]⟩) (fun hfb => ?_)
        refine cd_region ?_
        refine st (ev_assign rfl) rfl rfl rfl ?_
        refine op_nil ?_
        refine ax_then ?_
        refine At.regs (L' := [(4, _)]) (.cons rfl (.nil _)) ?_
        refine cd_ret ?_
        refine rt_tmp (.inl rfl) Try.results13 rfl ?_
        exact fun w1 sw => ⟨(v66, v54, i), ⟨hj, hs54.2⟩, rfl, (sw.gives (N := [(50, _)]) (.cons rfl (.nil _))).rn 2, (fun y hy => ⟨sw.row (i := 200) rfl hy, fun b' hb' => by
          simp only [List.mem_cons, List.not_mem_nil, or_false] at hy
          rcases hy with rfl | rfl
          · exact hfb b' hb'
          · exact hfa b' hb'⟩), fun h e hh b' hb' => by
          obtain ⟨rfl, rfl⟩ := lk_one hh
          exact sw.off 200 _ 50 _ rfl rfl b' hb'⟩
      ·
        refine wo (i := 10) rfl ?_
        refine st_buildSlice (h := 51) (cells := []) Try.underlying27 ty5 rfl (by decide) (fill_nil.trans (by simp)) rfl rfl rfl (fun b51 => ?_)
        refine op_nil ?_
        refine ax_then ?_
        refine mxp_one (i := 7) (by decide +kernel) (fun w sw => CF.cons (lies_blk (sw.blk_eq (h := 50) rfl)) (sw.cf (.cons rfl (.cons rfl (.cons rfl (.nil _)))))) ?_
        refine wo (i := 7) rfl ?_
        refine st_append (n := 0) (m := i) (h := 41) (cs := Bs.fflat (fl.take i)) Try.underlying40 Try.underlying40 ty29 rfl rfl rfl rfl (fun w1 sw => Bs.fcut_lo (sw.sl_rd (h := 20) rfl) hij) (by decide) rfl (by rw [Bs.fflat_len, List.length_take, Nat.min_eq_left hij]) (by omega) (by decide) (Bs.fflat_one (fun x hx => ho x (List.mem_of_mem_take hx))) rfl rfl (fun v48 => ?_)
        refine at_heq (i := 41) (v' := .own (v48) 29 2 (Bs.fflat (fl.take i))) rfl (by rw [List.nil_append]) ?_
        refine op_nil ?_
        refine ax_then ?_
        refine mxp_one (i := 13) (by decide +kernel) (fun w sw => CF.cons (lies_blk (sw.blk_eq (h := 50) rfl)) (sw.cf (.cons rfl (.cons rfl (.cons rfl (.nil _)))))) ?_
        refine wo (i := 13) rfl ?_
        refine st_append (n := 0) (m := data.length) (h := 51) (cs := ints .u8 data) Try.underlying27 Try.underlying27 ty5 rfl rfl rfl rfl (fun w1 sw => sw.sl_rd (h := 22) rfl) (by decide) rfl (by rw [ints_length]; omega) (by omega) (by decide) (ints_one _ _) rfl rfl (fun v54 => ?_)
        refine at_heq (i := 51) (v' := .own (v54) 5 1 (ints .u8 (data))) rfl (by rw [List.nil_append]) ?_
        refine at_own_shape (h := 51) rfl (fun hs54 => ?_)
        refine op_nil ?_
        refine ax_then ?_
        refine mxp (i := 14) rfl (by decide +kernel) (by decide +kernel) (by decide +kernel) rfl (fun w0 => ev_build_struct ty29 rfl pl29 rfl ((fill_put (i := 0) (off := 0) (n := 1) (vs := [.int .i64 id]) rfl rfl rfl (Nat.le_of_ble_eq_true rfl)).trans ((fill_put (i := 1) (off := 1) (n := 1) (vs := [v54]) rfl hs54.1 rfl (Nat.le_of_ble_eq_true rfl)).trans fill_nil))) rfl rfl (fun w sw => CF.cons (lies_blk (sw.blk_eq (h := 50) rfl)) (sw.cf (.cons rfl (.cons rfl (.cons rfl (.nil _)))))) ?_
        refine at_eq (i := 55) (v' := .agg (List.toArray [.int .i64 id, v54])) rfl rfl ?_
        refine mxp_one (i := 15) (by decide +kernel) (fun w sw => CF.cons (lies_blk (sw.blk_eq (h := 50) rfl)) (sw.cf (.cons rfl (.cons rfl (.cons rfl (.nil _)))))) ?_
        refine wo (i := 15) rfl ?_
        refine st_bs1 (h := 56) (cs := [.int .i64 id, v54]) Try.underlying40 ty29 rfl rfl rfl (by decide) (by decide) rfl rfl (fun b56 => ?_)
        refine op_nil ?_
        refine ax_then ?_
        refine mxp_one (i := 16) (by decide +kernel) (fun w sw => CF.cons (lies_blk (sw.blk_eq (h := 50) rfl)) (sw.cf (.cons rfl (.cons rfl (.cons rfl (.nil _)))))) ?_
        refine wo (i := 16) rfl ?_
        refine st_append (n := i) (m := 1) (h := 41) (cs := [.int .i64 id, v54]) Try.underlying40 Try.underlying40 ty29 rfl rfl rfl rfl (fun w1 sw => sw.own_rd (h := 56) rfl) (by decide) (by rw [Bs.fflat_len, List.length_take, Nat.min_eq_left hij]) rfl (by omega) (by decide) (by intro u hu; simp only [List.mem_cons, List.not_mem_nil, or_false] at hu; rcases hu with rfl | rfl; rfl; exact hs54.2) rfl rfl (fun v57 => ?_)
        refine at_heq (i := 41) (v' := .own (v57) 29 2 (Bs.fflat ((fl.take i ++ [(⟨id, v54, data, 0⟩ : Bs.W)])))) rfl (congrArg (Ent.own v57 29 2) (Bs.fflat_snoc (fl.take i) (⟨id, v54, data, 0⟩ : Bs.W))) ?_
        refine op_nil ?_
        refine ax_then ?_
        refine mxp (i := 17) rfl (by decide +kernel) (by decide +kernel) (by decide +kernel) rfl (fun w0 => ev_assign rfl) rfl rfl (fun w sw => CF.cons (lies_blk (sw.blk_eq (h := 50) rfl)) (sw.cf (.cons rfl (.cons rfl (.cons rfl (.nil _)))))) ?_
        refine mxp_done (by decide +kernel) (fun w sw => CF.cons (lies_blk (sw.blk_eq (h := 50) rfl)) (sw.cf (.cons rfl (.cons rfl (.cons rfl (.nil _)))))) ?_
        refine ax_then ?_
        refine At.regs (L' := [(0, _), (5, _), (6, _)]) (.cons rfl (.cons rfl (.cons rfl (.nil _)))) ?_
        refine cd_seq ?_
        refine cd_region ?_
        refine st (ev_move rfl) rfl rfl rfl ?_
        refine st (ev_move rfl) rfl rfl rfl ?_
        refine st (ev_move rfl) rfl rfl rfl ?_
        refine st (ev_nilCheck rfl) rfl rfl rfl ?_
        refine st (ev_fieldAddr (b := _) Try.underlying42 (f := _) rfl ty40 (by decide) rfl) rfl rfl rfl ?_
        refine st (ld_blk1 (h := 50) ty40 rfl rfl rfl rfl) rfl rfl rfl ?_
        refine st (ev_move rfl) rfl rfl rfl ?_
        refine st (ev_slice_rd_lo (n := fl.length) Try.underlying40 ty29 rfl rfl (fun w1 sw => sw.sl_rd (h := 20) rfl) (by decide) (Bs.fflat_len fl) (by omega) (by omega)) rfl rfl rfl ?_
        refine at_eq (i := 65) (v' := cutAt 2 fv i fl.length) rfl (by rw [Int.toNat_natCast]) ?_
        refine st_append (n := i + 1) (m := fl.length - i) (h := 41) (cs := Bs.fflat (fl.drop i)) Try.underlying40 Try.underlying40 ty29 rfl rfl rfl rfl (fun w1 sw => Bs.fcut_hi (sw.sl_rd (h := 20) rfl) hij) (by decide) (by rw [Bs.fflat_len, List.length_append, List.length_take, Nat.min_eq_left hij]; rfl) (by rw [Bs.fflat_len, List.length_drop]) (by omega) (by decide) (Bs.fflat_one (fun x hx => ho x (List.mem_of_mem_drop hx))) rfl rfl (fun v66 => ?_)
        refine at_heq (i := 41) (v' := .own (v66) 29 2 (Bs.fflat (Bs.ins fl i (⟨id, v54, data, 0⟩ : Bs.W)))) rfl (congrArg (Ent.own v66 29 2) (by rw [Bs.fflat_append]; exact congrArg Bs.fflat (by simp [Bs.ins]))) ?_
        refine at_own_shape (h := 41) rfl (fun hs66 => ?_)
        refine st (ev_nilCheck rfl) rfl rfl rfl ?_
        refine st (ev_fieldAddr (b := _) Try.underlying42 (f := _) rfl ty40 (by decide) rfl) rfl rfl rfl ?_
        refine st_store1 50 ty40 rfl rfl rfl hs66.2 (show 0 < 1 from by decide) rfl ?_
        refine at_heq (i := 50) (v' := .blk (b) (.cells ([v66]).toArray 42)) rfl rfl ?_
        refine op_nil ?_
        refine ax_then ?_
        refine At.regs (L' := []) (.nil _) ?_
        refine cd_seq ?_
        refine at_rows_nil 200 ?_
        refine at_rows_own (h := 51) (i := 200) (H' := [(50, _), (41, _)]) rfl rfl (.cons rfl (.cons rfl (.nil _))) rfl (fun b' hb' => ⟨50, _, rfl, by rw [mem_one hb']; simp [Ent.ids]⟩) (fun hfa => ?_)
        refine at_rows_own (h := 41) (i := 200) (H' := [(50, _)]) rfl rfl (.cons rfl (.nil _)) rfl (fun b' hb' => ⟨50, _, rfl, by rw [mem_one hb']; simp [Ent.ids]⟩) (fun hfb => ?_)
        refine cd_region ?_
        refine st (ev_assign rfl) rfl rfl rfl ?_
        refine op_nil ?_
        refine ax_then ?_
        refine At.regs (L' := [(4, _)]) (.cons rfl (.nil _)) ?_
        refine cd_ret ?_
        refine rt_tmp (.inl rfl) Try.results13 rfl ?_
        exact fun w1 sw => ⟨(v66, v54, i), ⟨hj, hs54.2⟩, rfl, (sw.gives (N := [(50, _)]) (.cons rfl (.nil _))).rn 2, (fun y hy => ⟨sw.row (i := 200) rfl hy, fun b' hb' => by
          simp only [List.mem_cons, List.not_mem_nil, or_false] at hy
          rcases hy with rfl | rfl
          · exact hfb b' hb'
          · exact hfa b' hb'⟩), fun h e hh b' hb' => by
          obtain ⟨rfl, rfl⟩ := lk_one hh
          exact sw.off 200 _ 50 _ rfl rfl b' hb'⟩
    ·
      refine wo (i := 10) rfl ?_
      refine st_buildSlice (h := 51) (cells := []) Try.underlying27 ty5 rfl (by decide) (fill_nil.trans (by simp)) rfl rfl rfl (fun b51 => ?_)
      refine op_nil ?_
      refine ax_then ?_
      refine mxp_one (i := 0) (by decide +kernel) (fun w sw => CF.cons (lies_blk (sw.blk_eq (h := 50) rfl)) (sw.cf (.cons rfl (.cons rfl (.cons rfl (.nil _)))))) ?_
      refine wo (i := 0) rfl ?_
      refine st_buildSlice (h := 41) (cells := []) Try.underlying40 ty29 rfl (by decide) (fill_nil.trans (by simp)) rfl rfl rfl (fun b41 => ?_)
      refine op_nil ?_
      refine ax_then ?_
      refine mxp_one (i := 7) (by decide +kernel) (fun w sw => CF.cons (lies_blk (sw.blk_eq (h := 50) rfl)) (sw.cf (.cons rfl (.cons rfl (.cons rfl (.nil _)))))) ?_
      refine wo (i := 7) rfl ?_
      refine st_append (n := 0) (m := i) (h := 41) (cs := Bs.fflat (fl.take i)) Try.underlying40 Try.underlying40 ty29 rfl rfl rfl rfl (fun w1 sw => Bs.fcut_lo (sw.sl_rd (h := 20) rfl) hij) (by decide) rfl (by rw [Bs.fflat_len, List.length_take, Nat.min_eq_left hij]) (by omega) (by decide) (Bs.fflat_one (fun x hx => ho x (List.mem_of_mem_take hx))) rfl rfl (fun v48 => ?_)
      refine at_heq (i := 41) (v' := .own (v48) 29 2 (Bs.fflat (fl.take i))) rfl (by rw [List.nil_append]) ?_
      refine op_nil ?_
      refine ax_then ?_
      refine mxp_one (i := 13) (by decide +kernel) (fun w sw => CF.cons (lies_blk (sw.blk_eq (h := 50) rfl)) (sw.cf (.cons rfl (.cons rfl (.cons rfl (.nil _)))))) ?_
      refine wo (i := 13) rfl ?_
      refine st_append (n := 0) (m := data.length) (h := 51) (cs := ints .u8 data) Try.underlying27 Try.underlying27 ty5 rfl rfl rfl rfl (fun w1 sw => sw.sl_rd (h := 22) rfl) (by decide) rfl (by rw [ints_length]; omega) (by omega) (by decide) (ints_one _ _) rfl rfl (fun v54 => ?_)
      refine at_heq (i := 51) (v' := .own (v54) 5 1 (ints .u8 (data))) rfl (by rw [List.nil_append]) ?_
      refine at_own_shape (h := 51) rfl (fun hs54 => ?_)
      refine op_nil ?_
      refine ax_then ?_
      refine mxp (i := 14) rfl (by decide +kernel) (by decide +kernel) (by decide +kernel) rfl (fun w0 => ev_build_struct ty29 rfl pl29 rfl ((fill_put (i := 0) (off := 0) (n := 1) (vs := [.int .i64 id]) rfl rfl rfl (Nat.le_of_ble_eq_true rfl)).trans ((fill_put (i := 1) (off := 1) (n := 1) (vs := [v54]) rfl hs54.1 rfl (Nat.le_of_ble_eq_true rfl)).trans fill_nil))) rfl rfl (fun w sw => CF.cons (lies_blk (sw.blk_eq (h := 50) rfl)) (sw.cf (.cons rfl (.cons rfl (.cons rfl (.nil _)))))) ?_
      refine at_eq (i := 55) (v' := .agg (List.toArray [.int .i64 id, v54])) rfl rfl ?_
      refine mxp_one (i := 15) (by decide +kernel) (fun w sw => CF.cons (lies_blk (sw.blk_eq (h := 50) rfl)) (sw.cf (.cons rfl (.cons rfl (.cons rfl (.nil _)))))) ?_
      refine wo (i := 15) rfl ?_
      refine st_bs1 (h := 56) (cs := [.int .i64 id, v54]) Try.underlying40 ty29 rfl rfl rfl (by decide) (by decide) rfl rfl (fun b56 => ?_)
      refine op_nil ?_
      refine ax_then ?_
      refine mxp_one (i := 16) (by decide +kernel) (fun w sw => CF.cons (lies_blk (sw.blk_eq (h := 50) rfl)) (sw.cf (.cons rfl (.cons rfl (.cons rfl (.nil _)))))) ?_
      refine wo (i := 16) rfl ?_
      refine st_append (n := i) (m := 1) (h := 41) (cs := [.int .i64 id, v54]) Try.underlying40 Try.underlying40 ty29 rfl rfl rfl rfl (fun w1 sw => sw.own_rd (h := 56) rfl) (by decide) (by rw [Bs.fflat_len, List.length_take, Nat.min_eq_left hij]) rfl (by omega) (by decide) (by intro u hu; simp only [List.mem_cons, List.not_mem_nil, or_false] at hu; rcases hu with rfl | rfl; rfl; exact hs54.2) rfl rfl (fun v57 => ?_)
      refine at_heq (i := 41) (v' := .own (v57) 29 2 (Bs.fflat ((fl.take i ++ [(⟨id, v54, data, 0⟩ : Bs.W)])))) rfl (congrArg (Ent.own v57 29 2) (Bs.fflat_snoc (fl.take i) (⟨id, v54, data, 0⟩ : Bs.W))) ?_
      refine op_nil ?_
      refine ax_then ?_
      refine mxp (i := 17) rfl (by decide +kernel) (by decide +kernel) (by decide +kernel) rfl (fun w0 => ev_assign rfl) rfl rfl (fun w sw => CF.cons (lies_blk (sw.blk_eq (h := 50) rfl)) (sw.cf (.cons rfl (.cons rfl (.cons rfl (.nil _)))))) ?_
      refine mxp_done (by decide +kernel) (fun w sw => CF.cons (lies_blk (sw.blk_eq (h := 50) rfl)) (sw.cf (.cons rfl (.cons rfl (.cons rfl (.nil _)))))) ?_
      refine ax_then ?_
      refine At.regs (L' := [(0, _), (5, _), (6, _)]) (.cons rfl (.cons rfl (.cons rfl (.nil _)))) ?_
      refine cd_seq ?_
      refine cd_region ?_
      refine st (ev_move rfl) rfl rfl rfl ?_
      refine st (ev_move rfl) rfl rfl rfl ?_
      refine st (ev_move rfl) rfl rfl rfl ?_
      refine st (ev_nilCheck rfl) rfl rfl rfl ?_
      refine st (ev_fieldAddr (b := _) Try.underlying42 (f := _) rfl ty40 (by decide) rfl) rfl rfl rfl ?_
      refine st (ld_blk1 (h := 50) ty40 rfl rfl rfl rfl) rfl rfl rfl ?_
      refine st (ev_move rfl) rfl rfl rfl ?_
      refine st (ev_slice_rd_lo (n := fl.length) Try.underlying40 ty29 rfl rfl (fun w1 sw => sw.sl_rd (h := 20) rfl) (by decide) (Bs.fflat_len fl) (by omega) (by omega)) rfl rfl rfl ?_
      refine at_eq (i := 65) (v' := cutAt 2 fv i fl.length) rfl (by rw [Int.toNat_natCast]) ?_
      refine st_append (n := i + 1) (m := fl.length - i) (h := 41) (cs := Bs.fflat (fl.drop i)) Try.underlying40 Try.underlying40 ty29 rfl rfl rfl rfl (fun w1 sw => Bs.fcut_hi (sw.sl_rd (h := 20) rfl) hij) (by decide) (by rw [Bs.fflat_len, List.length_append, List.length_take, Nat.min_eq_left hij]; rfl) (by rw [Bs.fflat_len, List.length_drop]) (by omega) (by decide) (Bs.fflat_one (fun x hx => ho x (List.mem_of_mem_drop hx))) rfl rfl (fun v66 => ?_)
      refine at_heq (i := 41) (v' := .own (v66) 29 2 (Bs.fflat (Bs.ins fl i (⟨id, v54, data, 0⟩ : Bs.W)))) rfl (congrArg (Ent.own v66 29 2) (by rw [Bs.fflat_append]; exact congrArg Bs.fflat (by simp [Bs.ins]))) ?_
      refine at_own_shape (h := 41) rfl (fun hs66 => ?_)
      refine st (ev_nilCheck rfl) rfl rfl rfl ?_
      refine st (ev_fieldAddr (b := _) Try.underlying42 (f := _) rfl ty40 (by decide) rfl) rfl rfl rfl ?_
      refine st_store1 50 ty40 rfl rfl rfl hs66.2 (show 0 < 1 from by decide) rfl ?_
      refine at_heq (i := 50) (v' := .blk (b) (.cells ([v66]).toArray 42)) rfl rfl ?_
      refine op_nil ?_
      refine ax_then ?_
      refine At.regs (L' := []) (.nil _) ?_
      refine cd_seq ?_
      refine at_rows_nil 200 ?_
      refine at_rows_own (h := 51) (i := 200) (H' := [(50, _), (41, _)]) rfl rfl (.cons rfl (.cons rfl (.nil _))) rfl (fun b' hb' => ⟨50, _, rfl, by rw [mem_one hb']; simp [Ent.ids]⟩) (fun hfa => ?_)
      refine at_rows_own (h := 41) (i := 200) (H' := [(50, _)]) rfl rfl (.cons rfl (.nil _)) rfl (fun b' hb' => ⟨50, _, rfl, by rw [mem_one hb']; simp [Ent.ids]⟩) (fun hfb => ?_)
      refine cd_region ?_
      refine st (ev_assign rfl) rfl rfl rfl ?_
      refine op_nil ?_
      refine ax_then ?_
      refine At.regs (L' := [(4, _)]) (.cons rfl (.nil _)) ?_
      refine cd_ret ?_
      refine rt_tmp (.inl rfl) Try.results13 rfl ?_
      exact fun w1 sw => ⟨(v66, v54, i), ⟨hj, hs54.2⟩, rfl, (sw.gives (N := [(50, _)]) (.cons rfl (.nil _))).rn 2, (fun y hy => ⟨sw.row (i := 200) rfl hy, fun b' hb' => by
        simp only [List.mem_cons, List.not_mem_nil, or_false] at hy
        rcases hy with rfl | rfl
        · exact hfb b' hb'
        · exact hfa b' hb'⟩), fun h e hh b' hb' => by
        obtain ⟨rfl, rfl⟩ := lk_one hh
        exact sw.off 200 _ 50 _ rfl rfl b' hb'⟩
end Go.Proofs.Ytfddplpljjlgiaa

namespace Go.Proofs.Ytfddplpljjlgiaa
open Go Go.RowKit Fw
open Bs
set_option linter.unusedVariables false
set_option linter.unusedSimpArgs false
theorem send_u (b : Nat) (qv dv : Value) (l : List Bs.W) (came : Nat) (id : Int) (data : List Int) (w : World) (hdl : data.length ≤ 140737488351232) (hl : l.length ≤ 64) (hca : came ≤ 1000000) (ho : ∀ x, x ∈ l → x.dv.oneCell' = true) (hb : w.heap[b]? = some (.cells (List.toArray [qv, .int .i64 (came : Nat)]) 52)) (hv : Own w qv 57 3 (Bs.wflat l)) (hbv : b ∉ blkOf qv) (h : Rd w dv 1 (ints .u8 data)) (hof : FE.off b (.sl (dv) 1 (ints .u8 (data)))) (hof2 : ∀ x, x ∈ blkOf qv → FE.off x (.sl (dv) 1 (ints .u8 (data)))) :
    Calls Try.prog 8 #[.pointer (some ⟨b, 0, none⟩), .agg (List.toArray [.int .i64 id, dv])] w (PostRM (ι := Value × List Bs.W × Nat × List (Value × Nat × List Value)) w (b :: blkOf qv) (fun x => Bs.InsQ l came id data x.2.1 x.2.2.1 ∧ ∀ y, y ∈ Bs.wrows x.2.1 → y ∈ Bs.wrows l ∨ y ∈ x.2.2.2) (fun _ => .int .i64 (Bs.sres l.length id data)) (fun x => [(0, .blk (b) (.cells ([x.1, .int .i64 (x.2.2.1 : Nat)]).toArray 52)), (1, .own (x.1) 57 3 (Bs.wflat (x.2.1)))]) (fun x => x.2.2.2)) := by
  by_cases hF : Bs.isF id data
  · by_cases hlt : l.length < 64
    · refine (send_ok b qv dv l came id data w ⟨hF.1, hF.2.1⟩ hF.2.2 hlt hca (by omega) ho hb hv hbv h hof hof2).mono ?_
      rintro e w' ⟨x, hx, rfl, g, r, o⟩
      dsimp only at g r o
      have hw := Bs.wrows_up (l := l) (x := ⟨id, x.2, data, ((came + 1 : Nat) : Int)⟩)
      generalize hl' : Bs.upS (l ++ [⟨id, x.2, data, ((came + 1 : Nat) : Int)⟩]) l.length = l' at g hw o
      exact ⟨(x.1, l', came + 1, [(x.2, 1, ints .u8 data)]), ⟨.inl ⟨hF, hlt, x.2, hx, hl'.symm, rfl⟩, hw⟩, by rw [Bs.sres, if_pos hF, if_pos hlt], g, r, o⟩
    · refine (send_full b qv _ dv l id data w ⟨hF.1, hF.2.1⟩ hF.2.2 (by omega) (lies_blk hb) (own_rd hv) h).mono ?_
      rintro e w' ⟨rfl, g⟩
      exact ⟨(qv, l, came, []), ⟨.inr ⟨fun h => hlt h.2, rfl, rfl⟩, fun y hy => .inl hy⟩, by rw [Bs.sres, if_pos hF, if_neg hlt], ((Sat.two 0 1 (by decide) hb hv hbv).step g (fun b hb => by cases hb)).gives (N := [(0, _), (1, _)]) (.cons rfl (.cons rfl (.nil _))), (fun y hy => by cases hy), fun _ _ _ _ _ y hy => by cases hy⟩
  · refine (send_arg b qv _ dv l id data w (by unfold Bs.isF at hF; omega) hdl (lies_blk hb) (own_rd hv) h).mono ?_
    rintro e w' ⟨rfl, g⟩
    exact ⟨(qv, l, came, []), ⟨.inr ⟨fun h => hF h.1, rfl, rfl⟩, fun y hy => .inl hy⟩, by rw [Bs.sres, if_neg hF], ((Sat.two 0 1 (by decide) hb hv hbv).step g (fun b hb => by cases hb)).gives (N := [(0, _), (1, _)]) (.cons rfl (.cons rfl (.nil _))), (fun y hy => by cases hy), fun _ _ _ _ _ y hy => by cases hy⟩
theorem next_u (b : Nat) (qv : Value) (l : List Bs.W) (came : Nat) (w : World) (hp : Bs.Hp l l.length) (hll : l.length ≤ 100000) (ho : ∀ x, x ∈ l → x.dv.oneCell' = true) (hb : w.heap[b]? = some (.cells (List.toArray [qv, .int .i64 (came : Nat)]) 52)) (hv : Own w qv 57 3 (Bs.wflat l)) (hbv : b ∉ blkOf qv) :
    Calls Try.prog 9 #[.pointer (some ⟨b, 0, none⟩)] w (Post (ι := Value) w (b :: blkOf qv) (fun _ => True) (fun _ => .tuple #[.agg (List.toArray [.int .i64 (Bs.first l).id, (Bs.first l).dv]), .bool (decide (0 < l.length))]) (fun x => [(0, .blk (b) (.cells ([x, .int .i64 (came : Nat)]).toArray 52)), (1, .own (x) 57 3 (Bs.wflat (Bs.rest l)))])) := by
  rcases Nat.eq_zero_or_pos l.length with h0 | h0
  · obtain rfl := List.length_eq_zero_iff.1 h0
    refine (next_emp b qv _ w (lies_blk hb) (own_rd hv)).mono ?_
    rintro e w' ⟨rfl, g⟩
    exact ⟨qv, trivial, rfl, ((Sat.two 0 1 (by decide) hb hv hbv).step g (fun b hb => by cases hb)).gives (N := [(0, _), (1, _)]) (.cons rfl (.cons rfl (.nil _)))⟩
  · rw [decide_eq_true h0]
    exact next_rest b qv l came w hp h0 hll ho hb hv hbv
theorem rsend_u (b : Nat) (fv dv : Value) (fl : List Bs.W) (id : Int) (data : List Int) (w : World) (hdl : data.length ≤ 140737488351232) (ho : ∀ x, x ∈ fl → x.dv.oneCell' = true) (hb : w.heap[b]? = some (.cells (List.toArray [fv]) 42)) (h : Rd w fv 2 (Bs.fflat fl)) (hof : FE.off b (.sl (fv) 2 (Bs.fflat (fl)))) (hd : Rd w dv 1 (ints .u8 data)) (hof2 : FE.off b (.sl (dv) 1 (ints .u8 (data)))) :
    Calls Try.prog 13 #[.pointer (some ⟨b, 0, none⟩), .agg (List.toArray [.int .i64 id, dv])] w (PostRM (ι := Value × List Bs.W × List (Value × Nat × List Value)) w [b] (fun x => Bs.InsR fl id data x.2.1 ∧ ∀ y, y ∈ (x.1, 2, Bs.fflat x.2.1) :: Bs.wrows x.2.1 → y ∈ (fv, 2, Bs.fflat fl) :: Bs.wrows fl ∨ y ∈ x.2.2) (fun _ => .int .i64 (Bs.sres fl.length id data)) (fun x => [(2, .blk (b) (.cells ([x.1]).toArray 42))]) (fun x => x.2.2)) := by
  by_cases hF : Bs.isF id data
  · by_cases hlt : fl.length < 64
    · refine (rsend_ok b fv dv fl id data w hF hlt ho hb h hof hd hof2).mono ?_
      rintro e w' ⟨x, ⟨hx, hx2⟩, rfl, g, r, o⟩
      refine ⟨(x.1, Bs.ins fl x.2.2 ⟨id, x.2.1, data, 0⟩, _), ⟨.inl ⟨hF, hlt, x.2.2, x.2.1, hx, hx2, rfl⟩, fun y hy => ?_⟩, by rw [Bs.sres, if_pos hF, if_pos hlt], g, r, o⟩
      rcases List.mem_cons.1 hy with rfl | hy
      · exact .inr (List.mem_cons_self ..)
      · obtain ⟨z, hz, rfl⟩ := List.mem_map.1 hy
        rcases List.mem_append.1 hz with hz | hz
        · exact .inl (List.mem_cons_of_mem _ (Bs.wrows_mem (List.mem_of_mem_take hz)))
        · rcases List.mem_cons.1 hz with rfl | hz
          · exact .inr (List.mem_cons_of_mem _ (List.mem_cons_self ..))
          · exact .inl (List.mem_cons_of_mem _ (Bs.wrows_mem (List.mem_of_mem_drop hz)))
    · refine (rsend_full b fv dv fl id data w hF (by omega) hb h hof hd).mono ?_
      rintro e w' ⟨rfl, g⟩
      exact ⟨(fv, fl, []), ⟨.inr ⟨fun h => hlt h.2, rfl⟩, fun y hy => .inl hy⟩, by rw [Bs.sres, if_pos hF, if_neg hlt], (((Sat.blk0 w 2 b _ hb).step g (fun b hb => by cases hb)).gives (N := [(2, _)]) (.cons rfl (.nil _))), (fun y hy => by cases hy), fun _ _ _ _ _ y hy => by cases hy⟩
  · refine (rsend_arg b fv dv fl id data w hF hdl hb h hof hd).mono ?_
    rintro e w' ⟨rfl, g⟩
    exact ⟨(fv, fl, []), ⟨.inr ⟨fun h => hF h.1, rfl⟩, fun y hy => .inl hy⟩, by rw [Bs.sres, if_neg hF], (((Sat.blk0 w 2 b _ hb).step g (fun b hb => by cases hb)).gives (N := [(2, _)]) (.cons rfl (.nil _))), (fun y hy => by cases hy), fun _ _ _ _ _ y hy => by cases hy⟩
theorem rnext_u (b : Nat) (fv : Value) (fl : List Bs.W) (w : World) (ho : ∀ x, x ∈ fl → x.dv.oneCell' = true) (hb : w.heap[b]? = some (.cells (List.toArray [fv]) 42)) (h : Rd w fv 2 (Bs.fflat fl)) (hof : FE.off b (.sl (fv) 2 (Bs.fflat (fl)))) :
    Calls Try.prog 14 #[.pointer (some ⟨b, 0, none⟩)] w (Post (ι := Value) w [b] (fun x => (∀ w2, Rd w2 fv 2 (Bs.fflat fl) → Rd w2 x 2 (Bs.fflat fl.tail)) ∧ ∀ c, c ∈ blkOf x → c ∈ blkOf fv) (fun _ => .tuple #[.agg (List.toArray [.int .i64 (fl.getD 0 Bs.w0).id, (fl.getD 0 Bs.w0).dv]), .bool (decide (0 < fl.length))]) (fun x => [(2, .blk (b) (.cells ([x]).toArray 42))])) := by
  rcases Nat.eq_zero_or_pos fl.length with h0 | h0
  · refine (rnext_emp b fv fl w h0 hb h hof).mono ?_
    rintro e w' ⟨rfl, g⟩
    obtain rfl := List.length_eq_zero_iff.1 h0
    exact ⟨fv, ⟨fun _ h => h, fun _ h => h⟩, rfl, (((Sat.blk0 w 2 b _ hb).step g (fun b hb => by cases hb)).gives (N := [(2, _)]) (.cons rfl (.nil _)))⟩
  · rw [decide_eq_true h0]
    refine (rnext_ok b fv fl w h0 ho hb h hof).mono ?_
    rintro e w' ⟨_, _, rfl, g⟩
    exact ⟨_, ⟨fun w2 h2 => by rw [← List.drop_one]; exact Bs.fcut_hi h2 h0, blkOf_cut2 _ _ _ _⟩, rfl, g⟩
set_option maxRecDepth 20000 in
set_option maxHeartbeats 2000000 in
theorem long14_any (v : Value) (acs : List Bs.AC) (w : World) (hlen : acs.length ≤ 140737488351232) (hda : ∀ x, x ∈ acs → x.data.length ≤ 140737488351232) (hv : Rd w v 3 (Bs.aflat acs)) (hr : ∀ y, y ∈ Bs.arows acs → Rd w y.1 y.2.1 y.2.2) : Calls Try.prog 12 #[v] w (Post (ι := Bool) w [] (fun _ => True) (fun x => .bool x) (fun _ => [])) := by
  refine calls_at (vs := [v]) (X := []) (H := []) (F := [(40, .rows (Bs.arows acs)), (20, .sl v 3 (Bs.aflat acs))]) 27 Try.func12 rfl rfl rfl ((Sat.rd0 20 hv).read (f := .rows (Bs.arows acs)) 40 hr off_nil) ?_
  refine cd_seq ?_
  refine cd_region ?_
  refine st (ev_assign rfl) rfl rfl rfl ?_
  refine op_nil ?_
  refine ax_then ?_
  refine At.regs (L' := [(0, _), (2, _)]) (.cons rfl (.cons rfl (.nil _))) ?_
  refine cd_seq ?_
  refine cd_region ?_
  refine st (ev_assign rfl) rfl rfl rfl ?_
  refine op_nil ?_
  refine ax_then ?_
  refine At.regs (L' := [(0, _), (2, _), (3, _)]) (.cons rfl (.cons rfl (.cons rfl (.nil _)))) ?_
  refine cd_seq ?_
  refine cd_seq ?_
  refine cd_region ?_
  refine st (ev_assign rfl) rfl rfl rfl ?_
  refine op_nil ?_
  refine ax_then ?_
  refine At.regs (L' := [(0, _), (2, _), (3, _), (4, _)]) (.cons rfl (.cons rfl (.cons rfl (.cons rfl (.nil _))))) ?_
  refine cd_block ?_
  refine cd_loop (ι := Nat × Nat) (fun x => x.1 ≤ acs.length ∧ x.1 ≤ 150 ∧ x.2 ≤ 5000) (fun x => acs.length - x.1)
      (fun x => [(0, v), (3, .int .i64 (x.2 : Nat)), (4, .int .i64 (x.1 : Nat))])
      (fun x => [])
      (fun x => [(20, .sl v 3 (Bs.aflat acs)), (40, .rows (Bs.arows acs))])
      (0, 0) (⟨Nat.zero_le _, Nat.zero_le _, Nat.zero_le _⟩) (.cons rfl (.cons rfl (.cons rfl (.nil _)))) (.nil _) (.cons rfl (.cons rfl (.nil _))) (fun x hi => ?_)
  obtain ⟨i, n⟩ := x
  dsimp only at hi ⊢
  obtain ⟨hi1, hi2, hi3⟩ := hi
  refine cd_seq ?_
  refine cd_seq ?_
  refine cd_region ?_
  refine st (ev_move rfl) rfl rfl rfl ?_
  refine st (ev_move rfl) rfl rfl rfl ?_
  refine st (ev_len_rd (h := 20) (n := acs.length) Try.underlying37 rfl rfl (Bs.aflat_len acs) (by decide)) rfl rfl rfl ?_
  refine st (ev_lss rfl rfl) rfl rfl rfl ?_
  refine st (ev_move rfl) rfl rfl rfl ?_
  refine at_split_if (i := 9) rfl (fun hg9 => ?_) (fun hg9 => ?_)
  ·
    refine st (ev_move rfl) rfl rfl rfl ?_
    refine st (ev_lss rfl rfl) rfl rfl rfl ?_
    refine st (ev_pick_t rfl rfl) rfl rfl rfl ?_
    refine op_nil ?_
    refine ax_then ?_
    refine At.regs (L' := [(0, _), (3, _), (4, _), (5, _), (6, _), (7, _), (8, _), (9, _), (10, _), (11, _), (12, _)]) (.cons rfl (.cons rfl (.cons rfl (.cons rfl (.cons rfl (.cons rfl (.cons rfl (.cons rfl (.cons rfl (.cons rfl (.cons rfl (.nil _)))))))))))) ?_
    refine cd_if rfl (fun hc12 => ?_) (fun hc12 => ?_)
    ·
      have hlt : i < acs.length := by omega
      refine cd_skip ?_
      refine ax_then ?_
      refine At.regs (L' := [(0, _), (3, _), (4, _), (5, _), (6, _), (7, _), (8, _), (9, _), (10, _), (11, _), (12, _)]) (.cons rfl (.cons rfl (.cons rfl (.cons rfl (.cons rfl (.cons rfl (.cons rfl (.cons rfl (.cons rfl (.cons rfl (.cons rfl (.nil _)))))))))))) ?_
      refine cd_seq ?_
      refine cd_block ?_
      refine cd_seq ?_
      refine cd_region ?_
      refine st (ev_move rfl) rfl rfl rfl ?_
      refine st (ev_add64 rfl rfl (by omega) (by omega)) rfl rfl rfl ?_
      refine st (ev_move rfl) rfl rfl rfl ?_
      refine st (ev_move rfl) rfl rfl rfl ?_
      refine st (ev_indexAddr_rd (h := 20) (n := acs.length) Try.underlying37 ty44 rfl rfl rfl (Bs.aflat_len acs) (by decide) (by omega) (by omega)) rfl rfl rfl ?_
      refine st (ev_fieldIn (n := 1) (k := (i : Int).toNat * 3) Try.underlying44 rfl rfl rfl (fun w1 sw => sw.sl_rd (h := 20) rfl) (by rw [Bs.aflat_len]; omega) (fun b off hx => ev_fieldAddr (b := _) Try.underlying44 (f := _) rfl ty29 (by decide) hx)) rfl rfl rfl ?_
      refine st (ev_fieldIn (n := 1) (k := ((i : Int).toNat * 3 + 1)) Try.underlying29 rfl rfl rfl (fun w1 sw => sw.sl_rd (h := 20) rfl) (by rw [Bs.aflat_len]; omega) (fun b off hx => ev_fieldAddr (b := _) Try.underlying29 (f := _) rfl ty27 (by decide) hx)) rfl rfl rfl ?_
      refine st (ld_rd1 (h := 20) (k := (i : Int).toNat * 3 + 1 + 1) ty27 rfl rfl rfl (by rw [show ((i : Int)).toNat = i by omega]; exact Bs.aflat_at hlt (k := 2) (by decide))) rfl rfl rfl ?_
      refine at_rowsl (i := 40) 42 rfl (Bs.arows_mem hlt) ?_
      refine at_eq (i := 22) (v' := (acs.getD i Bs.a0).dv) rfl rfl ?_
      have hdl := hda _ (Bs.agetD_mem hlt)
      refine st (ev_len_rdi (h := 42) Try.underlying27 rfl rfl) rfl rfl rfl ?_
      refine st (ev_add64 rfl rfl (by omega) (by omega)) rfl rfl rfl ?_
      refine st (ev_assign rfl) rfl rfl rfl ?_
      refine op_nil ?_
      refine ax_then ?_
      refine At.regs (L' := [(0, _), (3, _), (4, _), (5, _), (6, _), (7, _), (8, _), (9, _), (10, _), (11, _), (12, _), (15, _), (16, _), (17, _), (18, _), (19, _), (20, _), (21, _), (22, _), (23, _), (24, _)]) (.cons rfl (.cons rfl (.cons rfl (.cons rfl (.cons rfl (.cons rfl (.cons rfl (.cons rfl (.cons rfl (.cons rfl (.cons rfl (.cons rfl (.cons rfl (.cons rfl (.cons rfl (.cons rfl (.cons rfl (.cons rfl (.cons rfl (.cons rfl (.cons rfl (.nil _)))))))))))))))))))))) ?_
      refine cd_seq ?_
      refine cd_region ?_
      refine st (ev_move rfl) rfl rfl rfl ?_
      refine st (ev_gtr rfl rfl) rfl rfl rfl ?_
      refine op_nil ?_
      refine ax_then ?_
      refine At.regs (L' := [(0, _), (3, _), (4, _), (5, _), (6, _), (7, _), (8, _), (9, _), (10, _), (11, _), (12, _), (15, _), (16, _), (17, _), (18, _), (19, _), (20, _), (21, _), (22, _), (23, _), (24, _), (25, _), (26, _)]) (.cons rfl (.cons rfl (.cons rfl (.cons rfl (.cons rfl (.cons rfl (.cons rfl (.cons rfl (.cons rfl (.cons rfl (.cons rfl (.cons rfl (.cons rfl (.cons rfl (.cons rfl (.cons rfl (.cons rfl (.cons rfl (.cons rfl (.cons rfl (.cons rfl (.cons rfl (.cons rfl (.nil _)))))))))))))))))))))))) ?_
      refine cd_if rfl (fun hc26 => ?_) (fun hc26 => ?_)
      ·
        refine cd_seq ?_
        refine cd_region ?_
        refine st (ev_assign rfl) rfl rfl rfl ?_
        refine op_nil ?_
        refine ax_then ?_
        refine At.regs (L' := [(0, _), (2, _), (3, _), (4, _), (5, _), (6, _), (7, _), (8, _), (9, _), (10, _), (11, _), (12, _), (15, _), (16, _), (17, _), (18, _), (19, _), (20, _), (21, _), (22, _), (23, _), (24, _), (25, _), (26, _)]) (.cons rfl (.cons rfl (.cons rfl (.cons rfl (.cons rfl (.cons rfl (.cons rfl (.cons rfl (.cons rfl (.cons rfl (.cons rfl (.cons rfl (.cons rfl (.cons rfl (.cons rfl (.cons rfl (.cons rfl (.cons rfl (.cons rfl (.cons rfl (.cons rfl (.cons rfl (.cons rfl (.cons rfl (.nil _))))))))))))))))))))))))) ?_
        refine cd_ret ?_
        refine ax_block_ret ?_
        refine ax_then_ret ?_
        refine ax_then_ret ?_
        refine ax_block_ret ?_
        refine ax_then_ret ?_
        refine rt_tmp (.inl rfl) Try.results12 rfl ?_
        exact fun w1 sw => ⟨_, trivial, rfl, sw.gives (.nil _)⟩
      ·
        refine cd_skip ?_
        refine ax_block ?_
        refine ax_then ?_
        refine At.regs (L' := [(0, _), (3, _), (4, _), (5, _), (6, _), (7, _), (8, _), (9, _), (10, _), (11, _), (12, _), (15, _), (16, _), (17, _), (18, _), (19, _), (20, _), (21, _), (22, _), (23, _), (24, _), (25, _), (26, _)]) (.cons rfl (.cons rfl (.cons rfl (.cons rfl (.cons rfl (.cons rfl (.cons rfl (.cons rfl (.cons rfl (.cons rfl (.cons rfl (.cons rfl (.cons rfl (.cons rfl (.cons rfl (.cons rfl (.cons rfl (.cons rfl (.cons rfl (.cons rfl (.cons rfl (.cons rfl (.cons rfl (.nil _)))))))))))))))))))))))) ?_
        refine cd_region ?_
        refine st (ev_move rfl) rfl rfl rfl ?_
        refine st (ev_add64 rfl rfl (by omega) (by omega)) rfl rfl rfl ?_
        refine st (ev_assign rfl) rfl rfl rfl ?_
        refine op_nil ?_
        exact at_again ((i + 1, n + 1 + (acs.getD i Bs.a0).data.length)) (⟨by show i + 1 ≤ acs.length; omega, by show i + 1 ≤ 150; omega, by show n + 1 + _ ≤ 5000; omega⟩) (by show acs.length - (i + 1) < acs.length - i; omega) (.cons rfl (.cons rfl (.cons rfl (.nil _)))) (.nil _) (.cons rfl (.cons rfl (.nil _)))
    ·
      refine cd_exit ?_
      refine ax_then_exit ?_
      refine ax_then_exit ?_
      refine ax_block_hit ?_
      refine ax_then ?_
      refine At.regs (L' := []) (.nil _) ?_
      refine cd_seq ?_
      refine cd_region ?_
      refine st (ev_assign rfl) rfl rfl rfl ?_
      refine op_nil ?_
      refine ax_then ?_
      refine At.regs (L' := [(2, _)]) (.cons rfl (.nil _)) ?_
      refine cd_ret ?_
      refine rt_tmp (.inl rfl) Try.results12 rfl ?_
      exact fun w1 sw => ⟨_, trivial, rfl, sw.gives (.nil _)⟩
  ·
    refine st_skip rfl rfl rfl ?_
    refine st_skip rfl rfl rfl ?_
    refine st (ev_pick_f rfl rfl) rfl rfl rfl ?_
    refine op_nil ?_
    refine ax_then ?_
    refine At.regs (L' := [(0, _), (3, _), (4, _), (5, _), (6, _), (7, _), (8, _), (9, _), (10, _), (11, _), (12, _)]) (.cons rfl (.cons rfl (.cons rfl (.cons rfl (.cons rfl (.cons rfl (.cons rfl (.cons rfl (.cons rfl (.cons rfl (.cons rfl (.nil _)))))))))))) ?_
    refine cd_false rfl ?_
    refine cd_exit ?_
    refine ax_then_exit ?_
    refine ax_then_exit ?_
    refine ax_block_hit ?_
    refine ax_then ?_
    refine At.regs (L' := []) (.nil _) ?_
    refine cd_seq ?_
    refine cd_region ?_
    refine st (ev_assign rfl) rfl rfl rfl ?_
    refine op_nil ?_
    refine ax_then ?_
    refine At.regs (L' := [(2, _)]) (.cons rfl (.nil _)) ?_
    refine cd_ret ?_
    refine rt_tmp (.inl rfl) Try.results12 rfl ?_
    exact fun w1 sw => ⟨_, trivial, rfl, sw.gives (.nil _)⟩
end Go.Proofs.Ytfddplpljjlgiaa

namespace Go.Proofs.Ytfddplpljjlgiaa
open Go Go.RowKit Fw
open Bs
set_option linter.unusedVariables false
set_option linter.unusedSimpArgs false
set_option maxRecDepth 20000 in
set_option maxHeartbeats 16000000 in
theorem busPlays_any (v : Value) (acs : List Bs.AC) (w : World) (hlen : acs.length ≤ 140737488351232) (hda : ∀ x, x ∈ acs → x.data.length ≤ 140737488351232) (hBa : ∀ x, x ∈ acs → Sha.Byt x.data) (hv : Rd w v 3 (Bs.aflat acs)) (hr : ∀ y, y ∈ Bs.arows acs → Rd w y.1 y.2.1 y.2.2) : Calls Try.prog 5 #[v] w (PostV w (.bool true)) := by
  refine calls_at (vs := [v]) (X := []) (H := []) (F := [(40, .rows (Bs.arows acs)), (20, .sl v 3 (Bs.aflat acs))]) 96 Try.func5 rfl rfl rfl ((Sat.rd0 20 hv).read (f := .rows (Bs.arows acs)) 40 hr off_nil) ?_
  refine cd_seq ?_
  refine cd_region ?_
  refine st (ev_assign rfl) rfl rfl rfl ?_
  refine op_nil ?_
  refine ax_then ?_
  refine At.regs (L' := [(0, _), (2, _)]) (.cons rfl (.cons rfl (.nil _))) ?_
  refine cd_seq ?_
  refine cd_seq ?_
  refine cd_region ?_
  refine st (ev_move rfl) rfl rfl rfl ?_
  refine st_call has12 rfl (fun w1 sw => long14_any v acs w1 hlen hda (sw.sl_rd (h := 20) rfl) (fun y hy => sw.row (i := 40) rfl hy)) nil_all rfl rfl (fun lg _ => ?_)
  refine op_nil ?_
  refine ax_then ?_
  refine At.regs (L' := [(0, _), (2, _), (11, _)]) (.cons rfl (.cons rfl (.cons rfl (.nil _)))) ?_
  refine cd_cond rfl (fun hc11 => ?_) (fun hc11 => ?_)
  ·
    refine cd_seq ?_
    refine cd_region ?_
    refine st (ev_assign rfl) rfl rfl rfl ?_
    refine op_nil ?_
    refine ax_then ?_
    refine At.regs (L' := [(0, _), (2, _)]) (.cons rfl (.cons rfl (.nil _))) ?_
    refine cd_ret ?_
    refine ax_then_ret ?_
    refine rt_tmp (.inl rfl) Try.results5 rfl ?_
    exact fun w1 sw => ⟨rfl, sw.gives (.nil _)⟩
  ·
    refine cd_skip ?_
    refine ax_then ?_
    refine At.regs (L' := [(0, _), (2, _)]) (.cons rfl (.cons rfl (.nil _))) ?_
    refine cd_seq ?_
    refine cd_region ?_
    refine st_call has7 rfl (fun w1 sw => new_any w1) nil_all rfl rfl (fun b12 _ => ?_)
    refine st (ev_build_struct ty42 rfl pl42 rfl fill_nil) rfl rfl rfl ?_
    refine at_eq (i := 13) (v' := .agg (List.toArray [.slice none 0 0])) rfl rfl ?_
    refine st_box (h := 2) rfl rfl rfl rfl (fun b14 => ?_)
    refine st (ev_assign rfl) rfl rfl rfl ?_
    refine st (ev_assign rfl) rfl rfl rfl ?_
    refine op_nil ?_
    refine ax_then ?_
    refine At.regs (L' := [(0, _), (2, _), (3, _), (4, _)]) (.cons rfl (.cons rfl (.cons rfl (.cons rfl (.nil _))))) ?_
    refine cd_seq ?_
    refine cd_seq ?_
    refine cd_region ?_
    refine st (ev_move rfl) rfl rfl rfl ?_
    refine st (ev_eql_ptr_nil Try.underlying23 rfl rfl) rfl rfl rfl ?_
    refine op_nil ?_
    refine ax_then ?_
    refine At.regs (L' := [(0, _), (2, _), (3, _), (4, _), (16, _)]) (.cons rfl (.cons rfl (.cons rfl (.cons rfl (.cons rfl (.nil _)))))) ?_
    refine cd_false rfl ?_
    refine cd_skip ?_
    refine ax_then ?_
    refine At.regs (L' := [(0, _), (2, _), (3, _), (4, _)]) (.cons rfl (.cons rfl (.cons rfl (.cons rfl (.nil _))))) ?_
    refine cd_seq ?_
    refine cd_seq ?_
    refine cd_region ?_
    refine st (ev_assign rfl) rfl rfl rfl ?_
    refine op_nil ?_
    refine ax_then ?_
    refine At.regs (L' := [(0, _), (2, _), (3, _), (4, _), (5, _)]) (.cons rfl (.cons rfl (.cons rfl (.cons rfl (.cons rfl (.nil _)))))) ?_
    refine cd_block ?_
    refine at_rows_nil 41 ?_
    refine at_rowsmap (i := 41) (rs' := [((.slice none 0 0), 2, Bs.fflat [])]) 45 rfl (fun y hy => .inr (by rw [List.mem_singleton.1 hy]; exact ⟨rfl, fun w => Bs.rd_nilz⟩)) ?_
    refine cd_loop (ι := Nat × Value × List Bs.W × Nat × Value × List Bs.W) (fun x => x.1 ≤ acs.length ∧ x.1 ≤ 150 ∧ x.2.2.2.1 ≤ x.1 ∧ Bs.Rl x.2.2.1 x.2.2.2.2.2 x.2.2.2.1) (fun x => acs.length - x.1)
        (fun x => [(0, v), (3, .pointer (some ⟨b12, 0, none⟩)), (4, .pointer (some ⟨b14, 0, none⟩)), (5, .int .i64 (x.1 : Nat))])
        (fun x => [(0, .blk (b12) (.cells ([x.2.1, .int .i64 (x.2.2.2.1 : Nat)]).toArray 52)), (1, .own (x.2.1) 57 3 (Bs.wflat (x.2.2.1))), (2, .blk (b14) (.cells ([x.2.2.2.2.1]).toArray 42))])
        (fun x => [(20, .sl v 3 (Bs.aflat acs)), (40, .rows (Bs.arows acs)), (41, .rows (Bs.wrows x.2.2.1)), (45, .rows ((x.2.2.2.2.1, 2, Bs.fflat x.2.2.2.2.2) :: Bs.wrows x.2.2.2.2.2))])
        (0, .slice none 0 0, [], 0, .slice none 0 0, []) (⟨Nat.zero_le _, Nat.zero_le _, Nat.le_refl _, Bs.Rl.nil⟩) (.cons rfl (.cons rfl (.cons rfl (.cons rfl (.nil _))))) (.cons rfl (.cons rfl (.cons rfl (.nil _)))) (.cons rfl (.cons rfl (.cons rfl (.cons rfl (.nil _))))) (fun x hi => ?_)
    obtain ⟨i, q, l, came, fv, fl⟩ := x
    dsimp only at hi ⊢
    obtain ⟨hi1, hi2, hca, hR⟩ := hi
    refine cd_seq ?_
    refine cd_seq ?_
    refine cd_region ?_
    refine st (ev_move rfl) rfl rfl rfl ?_
    refine st (ev_move rfl) rfl rfl rfl ?_
    refine st (ev_len_rd (h := 20) (n := acs.length) Try.underlying37 rfl rfl (Bs.aflat_len acs) (by decide)) rfl rfl rfl ?_
    refine st (ev_lss rfl rfl) rfl rfl rfl ?_
    refine st (ev_move rfl) rfl rfl rfl ?_
    refine at_split_if (i := 21) rfl (fun hg21 => ?_) (fun hg21 => ?_)
    ·
      refine st (ev_move rfl) rfl rfl rfl ?_
      refine st (ev_lss rfl rfl) rfl rfl rfl ?_
      refine st (ev_pick_t rfl rfl) rfl rfl rfl ?_
      refine op_nil ?_
      refine ax_then ?_
      refine At.regs (L' := [(0, _), (3, _), (4, _), (5, _), (17, _), (18, _), (19, _), (20, _), (21, _), (22, _), (23, _), (24, _)]) (.cons rfl (.cons rfl (.cons rfl (.cons rfl (.cons rfl (.cons rfl (.cons rfl (.cons rfl (.cons rfl (.cons rfl (.cons rfl (.cons rfl (.nil _))))))))))))) ?_
      refine cd_if rfl (fun hc24 => ?_) (fun hc24 => ?_)
      ·
        have hlt : i < acs.length := by omega
        refine cd_skip ?_
        refine ax_then ?_
        refine At.regs (L' := [(0, _), (3, _), (4, _), (5, _), (17, _), (18, _), (19, _), (20, _), (21, _), (22, _), (23, _), (24, _)]) (.cons rfl (.cons rfl (.cons rfl (.cons rfl (.cons rfl (.cons rfl (.cons rfl (.cons rfl (.cons rfl (.cons rfl (.cons rfl (.cons rfl (.nil _))))))))))))) ?_
        refine cd_seq ?_
        refine cd_block ?_
        refine cd_join (ι := Value × List Bs.W × Nat × Value × List Bs.W) (fun y => y.2.2.1 ≤ i + 1 ∧ Bs.Rl y.2.1 y.2.2.2.2 y.2.2.1) (fun y => [(0, v), (3, .pointer (some ⟨b12, 0, none⟩)), (4, .pointer (some ⟨b14, 0, none⟩)), (5, .int .i64 (i : Nat))]) (fun y => [(0, .blk (b12) (.cells ([y.1, .int .i64 (y.2.2.1 : Nat)]).toArray 52)), (1, .own (y.1) 57 3 (Bs.wflat (y.2.1))), (2, .blk (b14) (.cells ([y.2.2.2.1]).toArray 42))]) (fun y => [(20, .sl v 3 (Bs.aflat acs)), (40, .rows (Bs.arows acs)), (41, .rows (Bs.wrows y.2.1)), (45, .rows ((y.2.2.2.1, 2, Bs.fflat y.2.2.2.2) :: Bs.wrows y.2.2.2.2))]) ?_ (fun y hj => ?_)
        ·
          refine cd_seq ?_
          refine cd_region ?_
          refine st (ev_move rfl) rfl rfl rfl ?_
          refine st (ev_move rfl) rfl rfl rfl ?_
          refine st (ev_indexAddr_rd (h := 20) (n := acs.length) Try.underlying37 ty44 rfl rfl rfl (Bs.aflat_len acs) (by decide) (by omega) (by omega)) rfl rfl rfl ?_
          refine st (ev_fieldIn (n := 0) (k := (i : Int).toNat * 3) Try.underlying44 rfl rfl rfl (fun w1 sw => sw.sl_rd (h := 20) rfl) (by rw [Bs.aflat_len]; omega) (fun b off hx => ev_fieldAddr (b := _) Try.underlying44 (f := _) rfl ty3 (by decide) hx)) rfl rfl rfl ?_
          refine st (ld_rd1 (h := 20) (k := (i : Int).toNat * 3 + 0) ty3 rfl rfl rfl (by rw [show ((i : Int)).toNat = i by omega]; exact Bs.aflat_at hlt (k := 0) (by decide))) rfl rfl rfl ?_
          refine at_eq (i := 31) (v' := .int .i64 (acs.getD i Bs.a0).kind) rfl rfl ?_
          refine st (ev_eql rfl rfl) rfl rfl rfl ?_
          refine op_nil ?_
          refine ax_then ?_
          refine At.regs (L' := [(0, _), (3, _), (4, _), (5, _), (17, _), (18, _), (19, _), (20, _), (21, _), (22, _), (23, _), (24, _), (27, _), (28, _), (29, _), (30, _), (31, _), (32, _)]) (.cons rfl (.cons rfl (.cons rfl (.cons rfl (.cons rfl (.cons rfl (.cons rfl (.cons rfl (.cons rfl (.cons rfl (.cons rfl (.cons rfl (.cons rfl (.cons rfl (.cons rfl (.cons rfl (.cons rfl (.cons rfl (.nil _))))))))))))))))))) ?_
          refine cd_if rfl (fun hc32 => ?_) (fun hc32 => ?_)
          ·
            refine cd_seq ?_
            refine at_rowsl (i := 40) 42 rfl (Bs.arows_mem hlt) ?_
            refine cd_mixp [(20, .sl v 3 (Bs.aflat acs))] hmix ?_
            refine mxp (i := 0) rfl (by decide +kernel) (by decide +kernel) (by decide +kernel) rfl (fun w0 => ev_move rfl) rfl rfl (fun w sw => sw.cf (.cons rfl (.nil _))) ?_
            refine mxp (i := 1) rfl (by decide +kernel) (by decide +kernel) (by decide +kernel) rfl (fun w0 => ev_move rfl) rfl rfl (fun w sw => sw.cf (.cons rfl (.nil _))) ?_
            refine mxp (i := 2) rfl (by decide +kernel) (by decide +kernel) (by decide +kernel) rfl (fun w0 => ev_move rfl) rfl rfl (fun w sw => sw.cf (.cons rfl (.nil _))) ?_
            refine mxp (i := 3) rfl (by decide +kernel) (by decide +kernel) (by decide +kernel) rfl (fun w0 => ev_indexAddr_rd (h := 20) (n := acs.length) Try.underlying37 ty44 rfl rfl rfl (Bs.aflat_len acs) (by decide) (by omega) (by omega)) rfl rfl (fun w sw => sw.cf (.cons rfl (.nil _))) ?_
            refine mxp (i := 4) rfl (by decide +kernel) (by decide +kernel) (by decide +kernel) rfl (fun w0 => ev_fieldIn (n := 1) (k := (i : Int).toNat * 3) Try.underlying44 rfl rfl rfl (fun w1 sw => sw.sl_rd (h := 20) rfl) (by rw [Bs.aflat_len]; omega) (fun b off hx => ev_fieldAddr (b := _) Try.underlying44 (f := _) rfl ty29 (by decide) hx)) rfl rfl (fun w sw => sw.cf (.cons rfl (.nil _))) ?_
            refine mxp (i := 5) rfl (by decide +kernel) (by decide +kernel) (by decide +kernel) rfl (fun w0 => ld_rd (h := 20) (k := (i : Int).toNat * 3 + 1) ty29 rfl rfl rfl (by decide) (by rw [Bs.aflat_len]; omega)) rfl rfl (fun w sw => sw.cf (.cons rfl (.nil _))) ?_
            refine at_eq (i := 38) (v' := .agg (List.toArray [.int .i64 (acs.getD i Bs.a0).id, (acs.getD i Bs.a0).dv])) rfl (congrArg (fun x => Value.agg (List.toArray x)) (by rw [show ((i : Nat) : Int).toNat = i by omega]; exact Bs.aflat_fr hlt)) ?_
            refine mxp (i := 7) rfl (by decide +kernel) (by decide +kernel) (by decide +kernel) rfl (fun w0 => ev_move rfl) rfl rfl (fun w sw => sw.cf (.cons rfl (.nil _))) ?_
            refine mxp (i := 8) rfl (by decide +kernel) (by decide +kernel) (by decide +kernel) rfl (fun w0 => ev_move rfl) rfl rfl (fun w sw => sw.cf (.cons rfl (.nil _))) ?_
            refine mxp (i := 9) rfl (by decide +kernel) (by decide +kernel) (by decide +kernel) rfl (fun w0 => ev_move rfl) rfl rfl (fun w sw => sw.cf (.cons rfl (.nil _))) ?_
            refine mxp (i := 10) rfl (by decide +kernel) (by decide +kernel) (by decide +kernel) rfl (fun w0 => ev_indexAddr_rd (h := 20) (n := acs.length) Try.underlying37 ty44 rfl rfl rfl (Bs.aflat_len acs) (by decide) (by omega) (by omega)) rfl rfl (fun w sw => sw.cf (.cons rfl (.nil _))) ?_
            refine mxp (i := 11) rfl (by decide +kernel) (by decide +kernel) (by decide +kernel) rfl (fun w0 => ev_fieldIn (n := 1) (k := (i : Int).toNat * 3) Try.underlying44 rfl rfl rfl (fun w1 sw => sw.sl_rd (h := 20) rfl) (by rw [Bs.aflat_len]; omega) (fun b off hx => ev_fieldAddr (b := _) Try.underlying44 (f := _) rfl ty29 (by decide) hx)) rfl rfl (fun w sw => sw.cf (.cons rfl (.nil _))) ?_
            refine mxp (i := 12) rfl (by decide +kernel) (by decide +kernel) (by decide +kernel) rfl (fun w0 => ld_rd (h := 20) (k := (i : Int).toNat * 3 + 1) ty29 rfl rfl rfl (by decide) (by rw [Bs.aflat_len]; omega)) rfl rfl (fun w sw => sw.cf (.cons rfl (.nil _))) ?_
            refine at_eq (i := 45) (v' := .agg (List.toArray [.int .i64 (acs.getD i Bs.a0).id, (acs.getD i Bs.a0).dv])) rfl (congrArg (fun x => Value.agg (List.toArray x)) (by rw [show ((i : Nat) : Int).toNat = i by omega]; exact Bs.aflat_fr hlt)) ?_
            refine mxp_one (i := 6) (by decide +kernel) (fun w sw => sw.cf (.cons rfl (.nil _))) ?_
            refine wo (i := 6) rfl ?_
            refine st_callRM 201 has8 rfl (fun w1 sw => send_u b12 q (acs.getD i Bs.a0).dv l came (acs.getD i Bs.a0).id (acs.getD i Bs.a0).data w1 (hda _ (Bs.agetD_mem hlt)) hR.len (by omega) hR.one (sw.blk_eq (h := 0) rfl) (sw.hold 1 _ rfl) (sw.apart 0 _ 1 _ rfl rfl (by decide) _ (by simp [Ent.ids])) (sw.sl_rd (h := 42) rfl) (sw.off 42 _ 0 _ rfl rfl _ (by simp [Ent.ids])) (fun x hx => sw.off 42 _ 1 _ rfl rfl x hx)) (mod_two rfl rfl) rfl rfl (fun x39 hx39 hf39 => ?_)
            obtain ⟨q39, l39, c39, R39⟩ := x39
            dsimp only at hx39 ⊢
            refine at_rowsjoin (i := 41) (i' := 201) (rs' := Bs.wrows l39) 41 rfl rfl hx39.2 ?_
            refine op_nil ?_
            refine ax_then ?_
            refine mxp_one (i := 13) (by decide +kernel) (fun w sw => sw.cf (.cons rfl (.nil _))) ?_
            refine wo (i := 13) rfl ?_
            refine st_callRM 202 has13 rfl (fun w1 sw => rsend_u b14 fv (acs.getD i Bs.a0).dv fl (acs.getD i Bs.a0).id (acs.getD i Bs.a0).data w1 (hda _ (Bs.agetD_mem hlt)) hR.fone (sw.blk_eq (h := 2) rfl) (sw.row (i := 45) rfl (List.mem_cons_self ..)) ((sw.off 45 _ 2 _ rfl rfl _ (by simp [Ent.ids])) _ (List.mem_cons_self ..)) (sw.sl_rd (h := 42) rfl) (sw.off 42 _ 2 _ rfl rfl _ (by simp [Ent.ids]))) (mod_blk rfl) rfl rfl (fun x46 hx46 hf46 => ?_)
            obtain ⟨f46, g46, R46⟩ := x46
            dsimp only at hx46 ⊢
            refine at_rowsjoin (i := 45) (i' := 202) (rs' := ((f46, 2, Bs.fflat g46) :: Bs.wrows g46)) 45 rfl rfl hx46.2 ?_
            refine at_eq (i := 46) (v' := .int .i64 (Bs.sres l.length (acs.getD i Bs.a0).id (acs.getD i Bs.a0).data)) rfl (by rw [hR.flen]) ?_
            refine op_nil ?_
            refine ax_then ?_
            refine mxp (i := 14) rfl (by decide +kernel) (by decide +kernel) (by decide +kernel) rfl (fun w0 => ev_neq rfl rfl) rfl rfl (fun w sw => sw.cf (.cons rfl (.nil _))) ?_
            refine mxp_done (by decide +kernel) (fun w sw => sw.cf (.cons rfl (.nil _))) ?_
            refine ax_then ?_
            refine At.regs (L' := [(0, _), (3, _), (4, _), (5, _), (17, _), (18, _), (19, _), (20, _), (21, _), (22, _), (23, _), (24, _), (27, _), (28, _), (29, _), (30, _), (31, _), (32, _), (33, _), (34, _), (35, _), (36, _), (37, _), (38, _), (39, _), (40, _), (41, _), (42, _), (43, _), (44, _), (45, _), (46, _), (47, _)]) (.cons rfl (.cons rfl (.cons rfl (.cons rfl (.cons rfl (.cons rfl (.cons rfl (.cons rfl (.cons rfl (.cons rfl (.cons rfl (.cons rfl (.cons rfl (.cons rfl (.cons rfl (.cons rfl (.cons rfl (.cons rfl (.cons rfl (.cons rfl (.cons rfl (.cons rfl (.cons rfl (.cons rfl (.cons rfl (.cons rfl (.cons rfl (.cons rfl (.cons rfl (.cons rfl (.cons rfl (.cons rfl (.cons rfl (.nil _)))))))))))))))))))))))))))))))))) ?_
            refine cd_if_f rfl (fun h => h rfl) ?_
            refine cd_skip ?_
            first | exact at_met ((q39, l39, c39, f46, g46)) (⟨by have := hx39.1.came; show c39 ≤ i + 1; omega, hR.send (hBa _ (Bs.agetD_mem hlt)) hx39.1 hx46.1⟩) (.cons rfl (.cons rfl (.cons rfl (.cons rfl (.nil _))))) (.cons rfl (.cons rfl (.cons rfl (.nil _)))) (.cons rfl (.cons rfl (.cons rfl (.cons rfl (.nil _))))) | exact at_met ((q50, Bs.rest l, came, f55, fl.tail)) (⟨by show came ≤ i + 1; omega, hR.next.2⟩) (.cons rfl (.cons rfl (.cons rfl (.cons rfl (.nil _))))) (.cons rfl (.cons rfl (.cons rfl (.nil _)))) (.cons rfl (.cons rfl (.cons rfl (.cons rfl (.nil _)))))
          ·
            refine cd_seq ?_
            refine cd_region ?_
            refine st (ev_move rfl) rfl rfl rfl ?_
            refine st_call has9 rfl (fun w1 sw => next_u b12 q l came w1 hR.hp (by have := hR.len; omega) hR.one (sw.blk_eq (h := 0) rfl) (sw.hold 1 _ rfl) (sw.apart 0 _ 1 _ rfl rfl (by decide) _ (by simp [Ent.ids]))) (mod_two rfl rfl) rfl rfl (fun q50 _ => ?_)
            refine at_rowsmap (i := 41) (rs' := ((Bs.first l).dv, 1, ints .u8 (Bs.first l).data) :: Bs.wrows (Bs.rest l)) 43 rfl (Bs.next_rows hR.hp) ?_
            refine at_rowsl (i := 43) 44 rfl (List.mem_cons_self ..) ?_
            refine at_rowsub (i := 43) (rs' := Bs.wrows (Bs.rest l)) 41 rfl (fun y hy => List.mem_cons_of_mem _ hy) ?_
            refine st (ev_move rfl) rfl rfl rfl ?_
            refine st (ev_extract rfl rfl) rfl rfl rfl ?_
            refine at_eq (i := 51) (v' := .agg (List.toArray [.int .i64 (Bs.first l).id, (Bs.first l).dv])) rfl rfl ?_
            refine st (ev_extract rfl rfl) rfl rfl rfl ?_
            refine at_eq (i := 52) (v' := .bool (decide (0 < l.length))) rfl rfl ?_
            refine st_alloc (h := 6) ty29 rfl rfl rfl (fun b6 => ?_)
            refine st_store_all 6 ty29 rfl rfl rfl rfl rfl (by intro u0 hu0; simp only [List.mem_cons, List.not_mem_nil, or_false] at hu0; rcases hu0 with rfl | rfl; rfl; exact Bs.first_one hR.one) rfl rfl ?_
            refine st (ev_assign rfl) rfl rfl rfl ?_
            refine op_nil ?_
            refine ax_then ?_
            refine At.regs (L' := [(0, _), (3, _), (4, _), (5, _), (6, _), (7, _), (17, _), (18, _), (19, _), (20, _), (21, _), (22, _), (23, _), (24, _), (27, _), (28, _), (29, _), (30, _), (31, _), (32, _), (48, _), (49, _), (50, _), (51, _), (52, _)]) (.cons rfl (.cons rfl (.cons rfl (.cons rfl (.cons rfl (.cons rfl (.cons rfl (.cons rfl (.cons rfl (.cons rfl (.cons rfl (.cons rfl (.cons rfl (.cons rfl (.cons rfl (.cons rfl (.cons rfl (.cons rfl (.cons rfl (.cons rfl (.cons rfl (.cons rfl (.cons rfl (.cons rfl (.cons rfl (.nil _)))))))))))))))))))))))))) ?_
            refine cd_seq ?_
            refine cd_region ?_
            refine st (ev_move rfl) rfl rfl rfl ?_
            refine st_call has14 rfl (fun w1 sw => rnext_u b14 fv fl w1 hR.fone (sw.blk_eq (h := 2) rfl) (sw.row (i := 45) rfl (List.mem_cons_self ..)) ((sw.off 45 _ 2 _ rfl rfl _ (by simp [Ent.ids])) _ (List.mem_cons_self ..))) (mod_blk rfl) rfl rfl (fun f55 hf55 => ?_)
            refine at_rowsmap (i := 45) (rs' := (f55, 2, Bs.fflat fl.tail) :: ((fl.getD 0 Bs.w0).dv, 1, ints .u8 (fl.getD 0 Bs.w0).data) :: Bs.wrows fl.tail) 46 rfl (Bs.rnext_rows hf55.1 hf55.2) ?_
            refine at_rowsl (i := 46) 47 rfl (List.mem_cons_of_mem _ (List.mem_cons_self ..)) ?_
            refine at_rowsub (i := 46) (rs' := ((f55, 2, Bs.fflat fl.tail) :: Bs.wrows fl.tail)) 45 rfl (fun y hy => (List.mem_cons.1 hy).elim (fun h => by rw [h]; exact List.mem_cons_self ..) (fun h => List.mem_cons_of_mem _ (List.mem_cons_of_mem _ h))) ?_
            refine st (ev_move rfl) rfl rfl rfl ?_
            refine st (ev_extract rfl rfl) rfl rfl rfl ?_
            refine at_eq (i := 56) (v' := .agg (List.toArray [.int .i64 (fl.getD 0 Bs.w0).id, (fl.getD 0 Bs.w0).dv])) rfl rfl ?_
            refine st (ev_extract rfl rfl) rfl rfl rfl ?_
            refine at_eq (i := 57) (v' := .bool (decide (0 < l.length))) rfl (by rw [← hR.flen]; rfl) ?_
            have hnk := hR.nextk
            refine st_alloc (h := 8) ty29 rfl rfl rfl (fun b8 => ?_)
            refine st_store_all 8 ty29 rfl rfl rfl rfl rfl (by intro u0 hu0; simp only [List.mem_cons, List.not_mem_nil, or_false] at hu0; rcases hu0 with rfl | rfl; rfl; exact Bs.first_one hR.fone) rfl rfl ?_
            refine st (ev_assign rfl) rfl rfl rfl ?_
            refine op_nil ?_
            refine ax_then ?_
            refine At.regs (L' := [(0, _), (3, _), (4, _), (5, _), (6, _), (7, _), (8, _), (9, _), (17, _), (18, _), (19, _), (20, _), (21, _), (22, _), (23, _), (24, _), (27, _), (28, _), (29, _), (30, _), (31, _), (32, _), (48, _), (49, _), (50, _), (51, _), (52, _), (53, _), (54, _), (55, _), (56, _), (57, _)]) (.cons rfl (.cons rfl (.cons rfl (.cons rfl (.cons rfl (.cons rfl (.cons rfl (.cons rfl (.cons rfl (.cons rfl (.cons rfl (.cons rfl (.cons rfl (.cons rfl (.cons rfl (.cons rfl (.cons rfl (.cons rfl (.cons rfl (.cons rfl (.cons rfl (.cons rfl (.cons rfl (.cons rfl (.cons rfl (.cons rfl (.cons rfl (.cons rfl (.cons rfl (.cons rfl (.cons rfl (.cons rfl (.nil _))))))))))))))))))))))))))))))))) ?_
            refine cd_seq ?_
            refine cd_region ?_
            refine st (ev_fieldAddr (b := _) Try.underlying29 (f := _) rfl ty3 (by decide) rfl) rfl rfl rfl ?_
            refine st (ld_blk1 (h := 6) ty3 rfl rfl rfl rfl) rfl rfl rfl ?_
            refine st (ev_fieldAddr (b := _) Try.underlying29 (f := _) rfl ty3 (by decide) rfl) rfl rfl rfl ?_
            refine st (ld_blk1 (h := 8) ty3 rfl rfl rfl rfl) rfl rfl rfl ?_
            refine st (ev_neq rfl rfl) rfl rfl rfl ?_
            refine st (ev_move rfl) rfl rfl rfl ?_
            refine at_eq (i := 63) (v' := .bool false) rfl (by simp only [Value.bool.injEq, decide_eq_true_eq, decide_eq_false_iff_not]; exact fun h => h hnk.1) ?_
            refine st (ev_fieldAddr (b := _) Try.underlying29 (f := _) rfl ty27 (by decide) rfl) rfl rfl rfl ?_
            refine st (ld_blk1 (h := 6) ty27 rfl rfl rfl rfl) rfl rfl rfl ?_
            refine st (ev_string Try.underlying27 Try.underlying5 Try.underlying9 rfl (fun w1 sw => sw.sl_rd (h := 44) rfl)) rfl rfl rfl ?_
            refine st (ev_fieldAddr (b := _) Try.underlying29 (f := _) rfl ty27 (by decide) rfl) rfl rfl rfl ?_
            refine st (ld_blk1 (h := 8) ty27 rfl rfl rfl rfl) rfl rfl rfl ?_
            refine st (ev_string Try.underlying27 Try.underlying5 Try.underlying9 rfl (fun w1 sw => sw.sl_rd (h := 47) rfl)) rfl rfl rfl ?_
            refine st (ev_neq_strb rfl rfl hnk.2.2 (by rw [← hnk.2.1]; exact hnk.2.2)) rfl rfl rfl ?_
            refine st (ev_pick_f rfl rfl) rfl rfl rfl ?_
            refine st (ev_move rfl) rfl rfl rfl ?_
            refine at_eq (i := 72) (v' := .bool false) rfl (by simp only [Value.bool.injEq, decide_eq_true_eq, decide_eq_false_iff_not]; exact fun h => h hnk.2.1) ?_
            refine st (ev_move rfl) rfl rfl rfl ?_
            refine st (ev_move rfl) rfl rfl rfl ?_
            refine st (ev_neq_bool Try.underlying4 rfl rfl) rfl rfl rfl ?_
            refine at_eq (i := 75) (v' := .bool false) rfl (by rw [beq_self_eq_true]; rfl) ?_
            refine st (ev_pick_f rfl rfl) rfl rfl rfl ?_
            refine op_nil ?_
            refine ax_then ?_
            refine At.regs (L' := [(0, _), (3, _), (4, _), (5, _), (6, _), (7, _), (8, _), (9, _), (17, _), (18, _), (19, _), (20, _), (21, _), (22, _), (23, _), (24, _), (27, _), (28, _), (29, _), (30, _), (31, _), (32, _), (48, _), (49, _), (50, _), (51, _), (52, _), (53, _), (54, _), (55, _), (56, _), (57, _), (58, _), (59, _), (60, _), (61, _), (62, _), (63, _), (64, _), (65, _), (66, _), (67, _), (68, _), (69, _), (70, _), (71, _), (72, _), (73, _), (74, _), (75, _), (76, _)]) (.cons rfl (.cons rfl (.cons rfl (.cons rfl (.cons rfl (.cons rfl (.cons rfl (.cons rfl (.cons rfl (.cons rfl (.cons rfl (.cons rfl (.cons rfl (.cons rfl (.cons rfl (.cons rfl (.cons rfl (.cons rfl (.cons rfl (.cons rfl (.cons rfl (.cons rfl (.cons rfl (.cons rfl (.cons rfl (.cons rfl (.cons rfl (.cons rfl (.cons rfl (.cons rfl (.cons rfl (.cons rfl (.cons rfl (.cons rfl (.cons rfl (.cons rfl (.cons rfl (.cons rfl (.cons rfl (.cons rfl (.cons rfl (.cons rfl (.cons rfl (.cons rfl (.cons rfl (.cons rfl (.cons rfl (.cons rfl (.cons rfl (.cons rfl (.cons rfl (.nil _)))))))))))))))))))))))))))))))))))))))))))))))))))) ?_
            refine cd_false rfl ?_
            refine cd_skip ?_
            first | exact at_met ((q39, l39, c39, f46, g46)) (⟨by have := hx39.1.came; show c39 ≤ i + 1; omega, hR.send (hBa _ (Bs.agetD_mem hlt)) hx39.1 hx46.1⟩) (.cons rfl (.cons rfl (.cons rfl (.cons rfl (.nil _))))) (.cons rfl (.cons rfl (.cons rfl (.nil _)))) (.cons rfl (.cons rfl (.cons rfl (.cons rfl (.nil _))))) | exact at_met ((q50, Bs.rest l, came, f55, fl.tail)) (⟨by show came ≤ i + 1; omega, hR.next.2⟩) (.cons rfl (.cons rfl (.cons rfl (.cons rfl (.nil _))))) (.cons rfl (.cons rfl (.cons rfl (.nil _)))) (.cons rfl (.cons rfl (.cons rfl (.cons rfl (.nil _)))))
        ·
          obtain ⟨q2, l2, c2, f2, fl2⟩ := y
          dsimp only at hj ⊢
          obtain ⟨hc2, hR2⟩ := hj
          refine cd_seq ?_
          refine at_rowsl (i := 45) 48 rfl (List.mem_cons_self ..) ?_
          refine cd_mixp [(302, .mem b14 0 [f2]), (48, .sl (f2) 2 (Bs.fflat (fl2)))] hmix ?_
          refine mxp (i := 0) rfl (by decide +kernel) (by decide +kernel) (by decide +kernel) rfl (fun w0 => ev_move rfl) rfl rfl (fun w sw => CF.cons (lies_blk (sw.blk_eq (h := 2) rfl)) (sw.cf (.cons rfl (.nil _)))) ?_
          refine mxp (i := 2) rfl (by decide +kernel) (by decide +kernel) (by decide +kernel) rfl (fun w0 => ev_move rfl) rfl rfl (fun w sw => CF.cons (lies_blk (sw.blk_eq (h := 2) rfl)) (sw.cf (.cons rfl (.nil _)))) ?_
          refine mxp (i := 3) rfl (by decide +kernel) (by decide +kernel) (by decide +kernel) rfl (fun w0 => ev_nilCheck rfl) rfl rfl (fun w sw => CF.cons (lies_blk (sw.blk_eq (h := 2) rfl)) (sw.cf (.cons rfl (.nil _)))) ?_
          refine mxp (i := 4) rfl (by decide +kernel) (by decide +kernel) (by decide +kernel) rfl (fun w0 => ev_fieldAddr (b := _) Try.underlying42 (f := _) rfl ty40 (by decide) rfl) rfl rfl (fun w sw => CF.cons (lies_blk (sw.blk_eq (h := 2) rfl)) (sw.cf (.cons rfl (.nil _)))) ?_
          refine mxp (i := 5) rfl (by decide +kernel) (by decide +kernel) (by decide +kernel) rfl (fun w0 => ld_mem1 (h := 302) ty40 rfl rfl rfl (Nat.zero_add _).symm rfl) rfl rfl (fun w sw => CF.cons (lies_blk (sw.blk_eq (h := 2) rfl)) (sw.cf (.cons rfl (.nil _)))) ?_
          refine mxp (i := 6) rfl (by decide +kernel) (by decide +kernel) (by decide +kernel) rfl (fun w0 => ev_len_rd (h := 48) (n := fl2.length) Try.underlying40 rfl rfl (Bs.fflat_len fl2) (by decide)) rfl rfl (fun w sw => CF.cons (lies_blk (sw.blk_eq (h := 2) rfl)) (sw.cf (.cons rfl (.nil _)))) ?_
          refine mxp_one (i := 1) (by decide +kernel) (fun w sw => CF.cons (lies_blk (sw.blk_eq (h := 2) rfl)) (sw.cf (.cons rfl (.nil _)))) ?_
          refine wo (i := 1) rfl ?_
          refine st_callv has10 rfl (fun w1 sw => blen_any b12 q2 (.int .i64 (c2 : Nat)) l2 w1 (lies_blk (sw.blk_eq (h := 0) rfl)) (sw.own_rd (h := 1) rfl)) rfl rfl ?_
          refine op_nil ?_
          refine ax_then ?_
          refine mxp (i := 7) rfl (by decide +kernel) (by decide +kernel) (by decide +kernel) rfl (fun w0 => ev_neq rfl rfl) rfl rfl (fun w sw => CF.cons (lies_blk (sw.blk_eq (h := 2) rfl)) (sw.cf (.cons rfl (.nil _)))) ?_
          refine mxp (i := 8) rfl (by decide +kernel) (by decide +kernel) (by decide +kernel) rfl (fun w0 => ev_move rfl) rfl rfl (fun w sw => CF.cons (lies_blk (sw.blk_eq (h := 2) rfl)) (sw.cf (.cons rfl (.nil _)))) ?_
          refine at_eq (i := 85) (v' := .bool false) rfl (by simp only [Value.bool.injEq, decide_eq_true_eq, decide_eq_false_iff_not]; exact fun h => h (by rw [hR2.flen])) ?_
          refine mxp (i := 9) rfl (by decide +kernel) (by decide +kernel) (by decide +kernel) rfl (fun w0 => ev_move rfl) rfl rfl (fun w sw => CF.cons (lies_blk (sw.blk_eq (h := 2) rfl)) (sw.cf (.cons rfl (.nil _)))) ?_
          refine mxp (i := 11) rfl (by decide +kernel) (by decide +kernel) (by decide +kernel) rfl (fun w0 => ev_move rfl) rfl rfl (fun w sw => CF.cons (lies_blk (sw.blk_eq (h := 2) rfl)) (sw.cf (.cons rfl (.nil _)))) ?_
          refine mxp (i := 12) rfl (by decide +kernel) (by decide +kernel) (by decide +kernel) rfl (fun w0 => ev_nilCheck rfl) rfl rfl (fun w sw => CF.cons (lies_blk (sw.blk_eq (h := 2) rfl)) (sw.cf (.cons rfl (.nil _)))) ?_
          refine mxp (i := 13) rfl (by decide +kernel) (by decide +kernel) (by decide +kernel) rfl (fun w0 => ev_fieldAddr (b := _) Try.underlying42 (f := _) rfl ty40 (by decide) rfl) rfl rfl (fun w sw => CF.cons (lies_blk (sw.blk_eq (h := 2) rfl)) (sw.cf (.cons rfl (.nil _)))) ?_
          refine mxp (i := 14) rfl (by decide +kernel) (by decide +kernel) (by decide +kernel) rfl (fun w0 => ld_mem1 (h := 302) ty40 rfl rfl rfl (Nat.zero_add _).symm rfl) rfl rfl (fun w sw => CF.cons (lies_blk (sw.blk_eq (h := 2) rfl)) (sw.cf (.cons rfl (.nil _)))) ?_
          refine mxp_one (i := 10) (by decide +kernel) (fun w sw => CF.cons (lies_blk (sw.blk_eq (h := 2) rfl)) (sw.cf (.cons rfl (.nil _)))) ?_
          refine wo (i := 10) rfl ?_
          refine st_callR 49 has16 rfl (fun w1 sw => list_any b12 q2 (.int .i64 (c2 : Nat)) l2 w1 (by have := hR2.len; omega) hR2.one (fun x hx => (hR2.dat x hx).2) (lies_blk (sw.blk_eq (h := 0) rfl)) (sw.own_rd (h := 1) rfl) (fun y hy => sw.row (i := 41) rfl hy)) rfl rfl (fun x87 hx87 hf87 => ?_)
          obtain ⟨v87, g87⟩ := x87
          dsimp only at hx87 ⊢
          have hgk := hR2.list hx87.1
          refine op_nil ?_
          refine ax_then ?_
          refine mxp_one (i := 15) (by decide +kernel) (fun w sw => CF.cons (lies_blk (sw.blk_eq (h := 2) rfl)) (sw.cf (.cons rfl (.nil _)))) ?_
          refine wo (i := 15) rfl ?_
          refine st_callv has15 rfl (fun w1 sw => rsame_any v87 f2 g87 fl2 w1 (hR2.glen hgk) hgk (fun i hi => (hR2.fdat hi).1) (sw.own_rd (h := 90) rfl) (sw.sl_rd (h := 48) rfl) (fun y hy => sw.row (i := 49) rfl hy) (fun y hy => sw.row (i := 45) rfl (List.mem_cons_of_mem _ hy))) rfl rfl ?_
          refine op_nil ?_
          refine ax_then ?_
          refine mxp (i := 16) rfl (by decide +kernel) (by decide +kernel) (by decide +kernel) rfl (fun w0 => ev_not rfl) rfl rfl (fun w sw => CF.cons (lies_blk (sw.blk_eq (h := 2) rfl)) (sw.cf (.cons rfl (.nil _)))) ?_
          refine at_eq (i := 93) (v' := .bool false) rfl rfl ?_
          refine mxp (i := 17) rfl (by decide +kernel) (by decide +kernel) (by decide +kernel) rfl (fun w0 => ev_pick_f rfl rfl) rfl rfl (fun w sw => CF.cons (lies_blk (sw.blk_eq (h := 2) rfl)) (sw.cf (.cons rfl (.nil _)))) ?_
          refine mxp_done (by decide +kernel) (fun w sw => CF.cons (lies_blk (sw.blk_eq (h := 2) rfl)) (sw.cf (.cons rfl (.nil _)))) ?_
          refine ax_then ?_
          refine At.regs (L' := [(0, _), (3, _), (4, _), (5, _), (77, _), (78, _), (79, _), (80, _), (81, _), (82, _), (83, _), (84, _), (85, _), (86, _), (87, _), (88, _), (89, _), (90, _), (91, _), (92, _), (93, _), (94, _)]) (.cons rfl (.cons rfl (.cons rfl (.cons rfl (.cons rfl (.cons rfl (.cons rfl (.cons rfl (.cons rfl (.cons rfl (.cons rfl (.cons rfl (.cons rfl (.cons rfl (.cons rfl (.cons rfl (.cons rfl (.cons rfl (.cons rfl (.cons rfl (.cons rfl (.cons rfl (.nil _))))))))))))))))))))))) ?_
          refine cd_false rfl ?_
          refine cd_skip ?_
          refine ax_block ?_
          refine ax_then ?_
          refine At.regs (L' := [(0, _), (3, _), (4, _), (5, _), (77, _), (78, _), (79, _), (80, _), (81, _), (82, _), (83, _), (84, _), (85, _), (86, _), (87, _), (88, _), (89, _), (90, _), (91, _), (92, _), (93, _), (94, _)]) (.cons rfl (.cons rfl (.cons rfl (.cons rfl (.cons rfl (.cons rfl (.cons rfl (.cons rfl (.cons rfl (.cons rfl (.cons rfl (.cons rfl (.cons rfl (.cons rfl (.cons rfl (.cons rfl (.cons rfl (.cons rfl (.cons rfl (.cons rfl (.cons rfl (.cons rfl (.nil _))))))))))))))))))))))) ?_
          refine cd_region ?_
          refine st (ev_move rfl) rfl rfl rfl ?_
          refine st (ev_add64 rfl rfl (by omega) (by omega)) rfl rfl rfl ?_
          refine st (ev_assign rfl) rfl rfl rfl ?_
          refine op_nil ?_
          exact at_again ((i + 1, q2, l2, c2, f2, fl2)) (⟨by show i + 1 ≤ acs.length; omega, by show i + 1 ≤ 150; omega, hc2, hR2⟩) (by show acs.length - (i + 1) < acs.length - i; omega) (.cons rfl (.cons rfl (.cons rfl (.cons rfl (.nil _))))) (.cons rfl (.cons rfl (.cons rfl (.nil _)))) (.cons rfl (.cons rfl (.cons rfl (.cons rfl (.nil _)))))
      ·
        refine cd_exit ?_
        refine ax_then_exit ?_
        refine ax_then_exit ?_
        refine ax_block_hit ?_
        refine ax_then ?_
        refine At.regs (L' := []) (.nil _) ?_
        refine cd_seq ?_
        refine cd_region ?_
        refine st_callv has11 rfl (fun w1 sw => known14_any w1) rfl rfl ?_
        refine st (ev_assign rfl) rfl rfl rfl ?_
        refine op_nil ?_
        refine ax_then ?_
        refine At.regs (L' := [(2, _)]) (.cons rfl (.nil _)) ?_
        refine cd_ret ?_
        refine rt_tmp (.inl rfl) Try.results5 rfl ?_
        exact fun w1 sw => ⟨rfl, sw.gives (.nil _)⟩
    ·
      refine st_skip rfl rfl rfl ?_
      refine st_skip rfl rfl rfl ?_
      refine st (ev_pick_f rfl rfl) rfl rfl rfl ?_
      refine op_nil ?_
      refine ax_then ?_
      refine At.regs (L' := [(0, _), (3, _), (4, _), (5, _), (17, _), (18, _), (19, _), (20, _), (21, _), (22, _), (23, _), (24, _)]) (.cons rfl (.cons rfl (.cons rfl (.cons rfl (.cons rfl (.cons rfl (.cons rfl (.cons rfl (.cons rfl (.cons rfl (.cons rfl (.cons rfl (.nil _))))))))))))) ?_
      refine cd_false rfl ?_
      refine cd_exit ?_
      refine ax_then_exit ?_
      refine ax_then_exit ?_
      refine ax_block_hit ?_
      refine ax_then ?_
      refine At.regs (L' := []) (.nil _) ?_
      refine cd_seq ?_
      refine cd_region ?_
      refine st_callv has11 rfl (fun w1 sw => known14_any w1) rfl rfl ?_
      refine st (ev_assign rfl) rfl rfl rfl ?_
      refine op_nil ?_
      refine ax_then ?_
      refine At.regs (L' := [(2, _)]) (.cons rfl (.nil _)) ?_
      refine cd_ret ?_
      refine rt_tmp (.inl rfl) Try.results5 rfl ?_
      exact fun w1 sw => ⟨rfl, sw.gives (.nil _)⟩
end Go.Proofs.Ytfddplpljjlgiaa

namespace Go.Proofs.Ytfddplpljjlgiaa.Fw
open Go Go.RowKit Go.WideShapes Go.ChangeShapes
set_option linter.unusedVariables false
set_option linter.unusedSimpArgs false
section
variable {H : Type} {enc : TypeId × Value → H} {P : Program} {W : World}
theorem ok_or {t e : TypeId} {v : Value} (ht : P.underlying t = some (.slice e)) (he : 0 < P.cellsOf e) (h : Tr enc P W t [v]) : OkS v ∨ ∃ a cap, v = .slice (some a) 0 cap := by
  obtain ⟨fuel, d, ps, hf, hw⟩ := h
  rcases DataW.trod_slice ht hf with ⟨hc, _⟩ | ⟨a, len', cap', elems, rest, n, rfl, hc, hdd, hb, hl, hm, hlen, hel, _⟩
  · simp at hc
    exact .inl ⟨none, 0, 0, hc, Nat.le_refl _, fun _ => rfl, fun x hx => by cases hx⟩
  · simp at hc
    rcases Nat.eq_zero_or_pos len' with h0 | h0
    · subst h0
      exact .inr ⟨a, cap', hc⟩
    · refine .inl ⟨some a, len', cap', hc, hl, (fun hn => by cases hn), fun x hx => ?_⟩
      cases hx
      have h1 := hel 0 h0
      have hx : ∃ x, elems[0]? = some x := ⟨elems[0]'(by omega), List.getElem?_eq_getElem (by omega)⟩
      obtain ⟨x, hx⟩ := hx
      rw [hx] at h1
      obtain ⟨cs, h4, _⟩ := Option.bind_eq_some_iff.1 h1
      obtain ⟨_, h5, h6⟩ := World.cells?_some h4
      have h7 := h6 0 (by omega)
      have e1 : (a.add (0 * P.cellsOf e)).add 0 = a := by rw [Nat.zero_mul]; rfl
      rw [e1] at h7
      rw [List.getElem?_eq_getElem (by omega : 0 < cs.length)] at h7
      apply Classical.byContradiction
      intro hs
      unfold World.cell? at h7
      split at h7
      · rw [if_pos (by cases hsp : a.spot with | none => exact absurd hsp hs | some y => rfl)] at h7
        cases h7
      · cases h7
/-- A slice, opened, wherever it lies. -/
theorem rd_tr2 {t e : TypeId} {v : Value} (ht : P.underlying t = some (.slice e)) (he : 0 < P.cellsOf e) (h : Tr enc P W t [v]) :
    ∃ (l : List Value) (n : Nat), Rd W v (P.cellsOf e) l ∧ l.length = n * P.cellsOf e ∧ n * P.bytesOf e ≤ reachBytes ∧ ∀ i, i < n → Tr enc P W e ((l.drop (i * P.cellsOf e)).take (P.cellsOf e)) := by
  rcases ok_or ht he h with hok | ⟨a, cap, rfl⟩
  · exact rd_tr ht he hok h
  · exact ⟨[], 0, ⟨some a, 0, cap, rfl, by simp, Nat.zero_le _, (fun hn => by cases hn), fun x hx => ⟨fun hp => by simp at hp, fun i hi => by simp at hi⟩⟩, by simp, by simp, fun i hi => by omega⟩
theorem rd_ints2 {t e : TypeId} {k : IntKind} {v : Value} (ht : P.underlying t = some (.slice e)) (he : P.underlying e = some (.int k)) (hc : P.cellsOf e = 1) (h : Tr enc P W t [v]) :
    ∃ l, Rd W v 1 (ints k l) ∧ l.length * P.bytesOf e ≤ reachBytes ∧ ∀ z, z ∈ l → (Lit.int k z).wf = true := by
  obtain ⟨l, n, h1, h2, h3, h4⟩ := rd_tr2 ht (by omega) h
  rw [hc, Nat.mul_one] at h2
  rw [hc] at h1
  obtain ⟨zs, rfl, h5⟩ := ints_all (k := k) l (fun i hi => by
    obtain ⟨m, h5, h6⟩ := tr_int he (h4 i (by omega))
    rw [hc, Nat.mul_one, take1 hi] at h5
    exact ⟨m, by rw [List.getElem?_eq_getElem hi, (List.cons.inj h5).1], h6⟩)
  exact ⟨zs, h1, by rw [ints_length] at h2; rw [h2]; exact h3, h5⟩
/-- A struct among cells, opened. -/
theorem tr_struct {t : TypeId} {fs : Array Field} {cs : List Value} (ht : P.underlying t = some (.struct fs)) (h : Tr enc P W t cs) : cs.length = P.cellsOf t ∧ ∀ (i : Nat) (f : Field), fs[i]? = some f → Tr enc P W f.type ((cs.drop f.offset).take (P.cellsOf f.type)) := by
  obtain ⟨fuel, d, ps, hf, hw⟩ := h
  obtain ⟨xs, n, rfl, hx, h3, h4, h5⟩ := DataW.trod_struct ht hf
  obtain ⟨rfl, _⟩ := Prod.mk.injEq .. ▸ hx
  refine ⟨h3, fun i f hi => ?_⟩
  have h := h5 i f hi
  have hlt : i < fs.size := (Array.getElem?_eq_some_iff.1 hi).1
  obtain ⟨x, hx⟩ : ∃ x, xs[i]? = some x := ⟨xs[i], List.getElem?_eq_getElem (by omega)⟩
  rw [hx] at h
  refine ⟨n, x.1, x.2, h, fun k hk => hw k ?_⟩
  simp only [DataW.weights, ht]
  exact DataW.weights_mem_each (j := i) (t := f.type) (d := x.1) (by simp [hi]) (by rw [List.getElem?_map, hx]; rfl) k hk
end
end Go.Proofs.Ytfddplpljjlgiaa.Fw

namespace Go.Proofs.Ytfddplpljjlgiaa
open Go Go.ChangeShapes Go.WideShapes Go.ChangeAt Go.RowKit Fw
set_option linter.unusedVariables false
theorem laid : laidOutB Try.prog = true := by kernel_rfl
theorem act_open {H : Type} {enc : TypeId × Value → H} {W : World} {cs : List Value} (h : Tr enc Try.prog W 44 cs) : ∃ x : Bs.AC, cs = Bs.acells x ∧ (x.data.length ≤ 140737488351232 ∧ Sha.Byt x.data) ∧ Rd W x.dv 1 (ints .u8 x.data) := by
  obtain ⟨hl, hf⟩ := tr_struct Try.underlying44 h
  rw [show Try.prog.cellsOf 44 = 3 from by kernel_rfl] at hl
  obtain ⟨c0, c1, c2, rfl⟩ := three hl
  have t0 : Tr enc Try.prog W 3 (([c0, c1, c2].drop 0).take (Try.prog.cellsOf 3)) := hf 0 _ rfl
  have t1 : Tr enc Try.prog W 29 (([c0, c1, c2].drop 1).take (Try.prog.cellsOf 29)) := hf 1 _ rfl
  rw [show Try.prog.cellsOf 3 = 1 from by kernel_rfl] at t0
  rw [show Try.prog.cellsOf 29 = 2 from by kernel_rfl] at t1
  obtain ⟨hl1, hf1⟩ := tr_struct Try.underlying29 t1
  have u0 : Tr enc Try.prog W 3 (([c1, c2].drop 0).take (Try.prog.cellsOf 3)) := hf1 0 _ rfl
  have u1 : Tr enc Try.prog W 27 (([c1, c2].drop 1).take (Try.prog.cellsOf 27)) := hf1 1 _ rfl
  rw [show Try.prog.cellsOf 3 = 1 from by kernel_rfl] at u0
  rw [show Try.prog.cellsOf 27 = 1 from by kernel_rfl] at u1
  obtain ⟨k, hk, _⟩ := tr_int Try.underlying3 t0
  obtain rfl : c0 = .int .i64 k := (List.cons.inj hk).1
  obtain ⟨i, hi, _⟩ := tr_int Try.underlying3 u0
  obtain rfl : c1 = .int .i64 i := (List.cons.inj hi).1
  obtain ⟨data, rd, m0, b0⟩ := rd_ints2 (k := .u8) Try.underlying27 Try.underlying5 (by kernel_rfl) u1
  rw [show Try.prog.bytesOf 5 = 1 from by kernel_rfl] at m0
  have hr : reachBytes = 140737488351232 := rfl
  exact ⟨⟨k, i, c2, data⟩, rfl, ⟨by show data.length ≤ _; omega, wf_byt b0⟩, rd⟩
theorem acts_open {H : Type} {enc : TypeId × Value → H} {W : World} : ∀ (n : Nat) (l : List Value), l.length = n * 3 → (∀ i, i < n → Tr enc Try.prog W 44 ((l.drop (i * 3)).take 3)) → ∃ es : List Bs.AC, l = Bs.aflat es ∧ es.length = n ∧ (∀ x, x ∈ es → x.data.length ≤ 140737488351232 ∧ Sha.Byt x.data) ∧ ∀ x, x ∈ es → Rd W x.dv 1 (ints .u8 x.data)
  | 0, l, hl, _ => ⟨[], by rw [List.length_eq_zero_iff.1 (by omega : l.length = 0)]; rfl, rfl, (fun x hx => by cases hx), (fun x hx => by cases hx)⟩
  | n + 1, l, hl, h => by
    obtain ⟨x, h1, h2, h3⟩ := act_open (h 0 (by omega))
    obtain ⟨es, g1, g2, g3, g4⟩ := acts_open n (l.drop 3) (by rw [List.length_drop]; omega) (fun i hi => by
      have := h (i + 1) (by omega)
      rw [List.drop_drop]
      have e1 : 3 + i * 3 = (i + 1) * 3 := by omega
      rw [e1]
      exact this)
    rw [Nat.zero_mul, List.drop_zero] at h1
    refine ⟨x :: es, ?_, by rw [List.length_cons, g2], fun y hy => ?_, fun y hy => ?_⟩
    · rw [Bs.aflat, List.flatMap_cons, ← h1]
      show l = l.take 3 ++ Bs.aflat es
      rw [← g1, List.take_append_drop]
    · rcases List.mem_cons.1 hy with rfl | hy
      · exact h2
      · exact g3 y hy
    · rcases List.mem_cons.1 hy with rfl | hy
      · exact h3
      · exact g4 y hy
namespace busPlays
theorem own : ownKnob Try.prog.godebug = none := by kernel_rfl
set_option maxRecDepth 100000 in
theorem lifted (os : Os) (started : os.Started) (H : Type) (enc : TypeId × Value → H) :
    ReturnsInHanded {} Try.checked os 5 .any (Rows.busPlaysSpec.pre6 enc Try.prog Try.f5 Rows.busPlaysRow.domain false) (Rows.busPlaysSpec.post enc Try.prog Try.f5 false true false false) := by
  refine returnsInHanded_of_change_sized (C := Try.checked) own started (by kernel_rfl) Try.func5
    (ChangeSpec.witness6 (enc := enc) (C := Try.checked) false ⟨#[], #[.slice none 0 0], []⟩ 8 (by kernel_rfl) (by kernel_rfl) (by kernel_rfl) (by kernel_rfl)) ?_
  intro W base args ds gs before hval0 hW hcnd hsz _
  have hval : ∀ (j : Nat) t v, Try.f5.params[j]? = some t → args[j]? = some v → Value.okWide Try.prog W .any base t v := hval0
  have hW' := hW
  obtain ⟨p, q, hA0, hV, rfl, hfz, hnd⟩ := hW
  have hA : DataW.TrodAll enc Try.prog W 0 (fun _ => true) true Try.f5.params.toList args.toList ds p := hA0
  have hk := hA
  have hlt : ∀ x ∈ p, x.block < W.heap.size := fun x hx => hW'.lt x (List.mem_append.2 (.inl hx))
  rw [Try.params5] at hA hval hk
  obtain ⟨v0, vs0, d0, ds0, p0, q0, hargs, rfl, rfl, h0, r0⟩ := trodAll_cons hA
  obtain ⟨rfl, rfl, rfl⟩ := trodAll_nil r0
  obtain rfl : args = #[v0] := by cases args; simp_all
  obtain ⟨rfl, rfl⟩ := trodVars_none hV
  obtain ⟨vs0, n0, rd0, e0, m0, t0⟩ := rd_of Try.underlying37 (by rw [show Try.prog.cellsOf 44 = 3 from by kernel_rfl]; decide) (hval 0 37 v0 rfl rfl) h0 (light_of (j := 0) hsz rfl rfl)
  rw [show Try.prog.cellsOf 44 = 3 from by kernel_rfl] at rd0 e0 t0
  rw [show Try.prog.bytesOf 44 = 40 from by kernel_rfl] at m0
  have hreach : reachBytes = 140737488351232 := rfl
  obtain ⟨es0, rfl, en0, eo0, er0⟩ := acts_open n0 vs0 e0 t0
  refine (busPlays_any v0 es0 W (by omega) (fun x hx => (eo0 x hx).1) (fun x hx => (eo0 x hx).2) rd0 (fun y hy => by obtain ⟨x, hx, rfl⟩ := List.mem_map.1 hy; exact er0 x hx)).mono fun e W' ⟨he, g⟩ => ?_
  subst he
  have bel := g.below
  exact ⟨_, rfl, _, _, _, [], _, [], hW', trodAll_mk1 (shut_bool Try.underlying4 _), all_below laid bel _ _ _ _ (all_rows (by kernel_rfl)) hk hlt (fun x hx => by simpa using hlt x hx), rfl, bel.frame _, fun h => by cases h⟩
theorem over : Rows.busPlaysRow.holds Try.pinned (OpenSpec.ofChange Rows.busPlaysSpec) :=
  OpenClaim.holds_of_wide 5 Try.f5 rfl rfl rfl rfl rfl rfl rfl ⟨rfl, rfl, rfl, rfl, rfl⟩ rfl rfl rfl rfl rfl (by kernel_rfl) Try.func5 (by kernel_rfl)
    (of_decide_eq_true (by kernel_rfl)) (by unfold Func.isWrapper; first | (rw [if_pos (by decide +kernel)]; kernel_rfl) | (rw [if_neg (by decide +kernel)]; exact ⟨rfl, rfl⟩))
    (fun os started H enc _ => lifted os started H enc)
/-- The statement. -/
theorem proved : Rows.BusPlaysSaid := over
end busPlays
end Go.Proofs.Ytfddplpljjlgiaa
