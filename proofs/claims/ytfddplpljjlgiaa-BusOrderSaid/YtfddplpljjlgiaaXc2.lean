/- The statement's proof, part 2: what its walks and its plain laws need. -/
import Derived.Test.YtfddplpljjlgiaaRows
import Derived.Tactics
import Derived.Deep.Quiet
import Derived.StillTail
import Derived.Laws.World
import Derived.Laws.Sem
import Derived.Laws.Entries
import Derived.Below
import Derived.Deep.LoopGhost
import Derived.Laws.BytesString
import Derived.Laws.IdiomStrings
import Derived.KernelRfl
import Derived.Carry
import Derived.OpenShut
import Derived.ProofKit
import Derived.ChangeSame
import Derived.HandedShaped
import Derived.SizedLaws
import Derived.Test.YtfddplpljjlgiaaProg
import Derived.Shelf.SlSortCmp.InsertionK
import Derived.Shelf.SlSortFuncK.SWK
import Derived.Sort.AssemblyPlain
import Derived.Shelf.SlSortCmp.PdqK
import Derived.Laws.Strings
import Derived.Test.YtfddplpljjlgiaaXc1
namespace Go.Proofs.Ytfddplpljjlgiaa
open Go Go.RowKit Fw
open Bs
set_option linter.unusedVariables false
set_option linter.unusedSimpArgs false
set_option maxRecDepth 20000 in
set_option maxHeartbeats 2000000 in
theorem qpush_any (b : Nat) (qv c : Value) (l : List Bs.W) (x : Bs.W) (w : World) (hx : x.dv.oneCell' = true) (hll : l.length ≤ 100000) (hb : w.heap[b]? = some (.cells (List.toArray [qv, c]) 52)) (hv : Own w qv 57 3 (Bs.wflat l)) (hbv : b ∉ blkOf qv) : Calls Try.prog 66 #[.pointer (some ⟨b, 0, none⟩), .iface 57 (.agg (List.toArray [.int .i64 x.id, x.dv, .int .i64 x.came]))] w (Post (ι := Value) w (b :: blkOf qv) (fun _ => True) (fun _ => .tuple #[]) (fun v => [(0, .blk (b) (.cells ([v, c]).toArray 52)), (1, .own (v) 57 3 (Bs.wflat (l ++ [x])))])) := by
  refine calls_at (vs := [.pointer (some ⟨b, 0, none⟩), .iface 57 (.agg (List.toArray [.int .i64 x.id, x.dv, .int .i64 x.came]))]) (X := b :: blkOf qv) (H := [(0, .blk (b) (.cells ([qv, c]).toArray 52)), (1, .own (qv) 57 3 (Bs.wflat (l)))]) (F := []) 20 Try.func66 rfl rfl rfl (Sat.two 0 1 (by decide) hb hv hbv) ?_
  refine cd_seq ?_
  refine cd_region ?_
  refine st (ev_move rfl) rfl rfl rfl ?_
  refine st (ev_assert Try.underlying57 rfl rfl) rfl rfl rfl ?_
  refine st (ev_move rfl) rfl rfl rfl ?_
  refine st (ev_extract rfl rfl) rfl rfl rfl ?_
  refine st (ev_extract rfl rfl) rfl rfl rfl ?_
  refine st_alloc (h := 4) ty57 rfl rfl rfl (fun b4 => ?_)
  refine st_store_all 4 ty57 rfl rfl rfl rfl rfl (by intro u0 hu0; simp only [List.mem_cons, List.not_mem_nil, or_false] at hu0; rcases hu0 with rfl | rfl | rfl; rfl; exact hx; rfl) rfl rfl ?_
  refine st (ev_assign rfl) rfl rfl rfl ?_
  refine op_nil ?_
  refine ax_then ?_
  refine At.regs (L' := [(0, _), (4, _), (5, _)]) (.cons rfl (.cons rfl (.cons rfl (.nil _)))) ?_
  refine cd_seq ?_
  refine cd_region ?_
  refine st (ev_move rfl) rfl rfl rfl ?_
  refine op_nil ?_
  refine ax_then ?_
  refine At.regs (L' := [(0, _), (4, _), (11, _)]) (.cons rfl (.cons rfl (.cons rfl (.nil _)))) ?_
  refine cd_true rfl ?_
  refine at_freeze_blk (h := 4) (H' := [(0, _), (1, _)]) 4 rfl (.cons rfl (.cons rfl (.nil _))) rfl ?_
  refine cd_mix hmix ?_
  refine mx (i := 0) rfl (by decide +kernel) (by decide +kernel) (by decide +kernel) rfl (fun w0 => ev_move rfl) rfl rfl (Sub.refl _) ?_
  refine mx (i := 1) rfl (by decide +kernel) (by decide +kernel) (by decide +kernel) rfl (fun w0 => ev_move rfl) rfl rfl (Sub.refl _) ?_
  refine mx (i := 2) rfl (by decide +kernel) (by decide +kernel) (by decide +kernel) rfl (fun w0 => ev_nilCheck rfl) rfl rfl (Sub.refl _) ?_
  refine mx (i := 4) rfl (by decide +kernel) (by decide +kernel) (by decide +kernel) rfl (fun w0 => ld_mem_all (h := 4) ty57 rfl rfl rfl rfl) rfl rfl (Sub.refl _) ?_
  refine mx_two (i := 3) (j := 5) (by decide +kernel) (Sub.refl _) ?_ ?_
  ·
    refine wo (i := 3) rfl ?_
    refine st (ld_blk1 (h := 0) ty50 rfl rfl rfl rfl) rfl rfl rfl ?_
    refine op_nil ?_
    refine ax_then ?_
    refine mx_one (i := 5) (by decide +kernel) (Sub.refl _) ?_
    refine wo (i := 5) rfl ?_
    refine st_bs1 (h := 17) (cs := Bs.wcells x) Try.underlying50 ty57 rfl rfl rfl (by decide) (by decide) rfl rfl (fun b17 => ?_)
    refine op_nil ?_
    refine ax_then ?_
    refine mx_one (i := 6) (by decide +kernel) (Sub.refl _) ?_
    refine wo (i := 6) rfl ?_
    refine st_append (n := l.length) (m := 1) (h := 1) (cs := Bs.wcells x) Try.underlying50 Try.underlying50 ty57 rfl rfl rfl rfl (fun w1 sw => sw.own_rd (h := 17) rfl) (by decide) (Bs.wflat_len l) rfl (by omega) (by decide) (Bs.wcells_one hx) rfl rfl (fun v18 => ?_)
    refine at_heq (i := 1) (v' := .own (v18) 57 3 (Bs.wflat (l ++ [x]))) rfl (by rw [Bs.wflat_snoc]) ?_
    refine at_own_shape (h := 1) rfl (fun hs18 => ?_)
    refine op_nil ?_
    refine ax_then ?_
    refine mx (i := 7) rfl (by decide +kernel) (by decide +kernel) (by decide +kernel) rfl (fun w0 => ev_nilCheck rfl) rfl rfl (Sub.refl _) ?_
    refine mx_one (i := 8) (by decide +kernel) (Sub.refl _) ?_
    refine wo (i := 8) rfl ?_
    refine st_store1 0 ty50 rfl rfl rfl hs18.2 (show 0 < 2 from by decide) rfl ?_
    refine at_heq (i := 0) (v' := .blk (b) (.cells ([v18, c]).toArray 52)) rfl rfl ?_
    refine op_nil ?_
    refine ax_then ?_
    refine mx_done (by decide +kernel) (Sub.refl _) ?_
    refine rt_none (.inr rfl) Try.results66 ?_
    exact fun w1 sw => ⟨v18, trivial, rfl, sw.gives (N := [(0, _), (1, _)]) (.cons rfl (.cons rfl (.nil _)))⟩
  ·
    refine wo (i := 5) rfl ?_
    refine st_bs1 (h := 17) (cs := Bs.wcells x) Try.underlying50 ty57 rfl rfl rfl (by decide) (by decide) rfl rfl (fun b17 => ?_)
    refine op_nil ?_
    refine ax_then ?_
    refine mx_one (i := 3) (by decide +kernel) (Sub.refl _) ?_
    refine wo (i := 3) rfl ?_
    refine st (ld_blk1 (h := 0) ty50 rfl rfl rfl rfl) rfl rfl rfl ?_
    refine op_nil ?_
    refine ax_then ?_
    refine mx_one (i := 6) (by decide +kernel) (Sub.refl _) ?_
    refine wo (i := 6) rfl ?_
    refine st_append (n := l.length) (m := 1) (h := 1) (cs := Bs.wcells x) Try.underlying50 Try.underlying50 ty57 rfl rfl rfl rfl (fun w1 sw => sw.own_rd (h := 17) rfl) (by decide) (Bs.wflat_len l) rfl (by omega) (by decide) (Bs.wcells_one hx) rfl rfl (fun v18 => ?_)
    refine at_heq (i := 1) (v' := .own (v18) 57 3 (Bs.wflat (l ++ [x]))) rfl (by rw [Bs.wflat_snoc]) ?_
    refine at_own_shape (h := 1) rfl (fun hs18 => ?_)
    refine op_nil ?_
    refine ax_then ?_
    refine mx (i := 7) rfl (by decide +kernel) (by decide +kernel) (by decide +kernel) rfl (fun w0 => ev_nilCheck rfl) rfl rfl (Sub.refl _) ?_
    refine mx_one (i := 8) (by decide +kernel) (Sub.refl _) ?_
    refine wo (i := 8) rfl ?_
    refine st_store1 0 ty50 rfl rfl rfl hs18.2 (show 0 < 2 from by decide) rfl ?_
    refine at_heq (i := 0) (v' := .blk (b) (.cells ([v18, c]).toArray 52)) rfl rfl ?_
    refine op_nil ?_
    refine ax_then ?_
    refine mx_done (by decide +kernel) (Sub.refl _) ?_
    refine rt_none (.inr rfl) Try.results66 ?_
    exact fun w1 sw => ⟨v18, trivial, rfl, sw.gives (N := [(0, _), (1, _)]) (.cons rfl (.cons rfl (.nil _)))⟩
set_option maxRecDepth 20000 in
set_option maxHeartbeats 2000000 in
theorem qpop_any (b : Nat) (qv c : Value) (l : List Bs.W) (w : World) (hpos : 0 < l.length) (hll : l.length ≤ 100000) (ho : ∀ x, x ∈ l → x.dv.oneCell' = true) (hb : w.heap[b]? = some (.cells (List.toArray [qv, c]) 52)) (hv : Own w qv 57 3 (Bs.wflat l)) (hbv : b ∉ blkOf qv) : Calls Try.prog 65 #[.pointer (some ⟨b, 0, none⟩)] w (Post (ι := Unit) w (b :: blkOf qv) (fun _ => True) (fun _ => .iface 57 (.agg (List.toArray [.int .i64 (l.getD (l.length - 1) Bs.w0).id, (l.getD (l.length - 1) Bs.w0).dv, .int .i64 (l.getD (l.length - 1) Bs.w0).came]))) (fun _ => [(0, .blk (b) (.cells ([(cutAt 3 qv 0 (l.length - 1)), c]).toArray 52)), (1, .own ((cutAt 3 qv 0 (l.length - 1))) 57 3 (Bs.wflat ((l.take (l.length - 1)))))])) := by
  refine calls_at (vs := [.pointer (some ⟨b, 0, none⟩)]) (X := b :: blkOf qv) (H := [(0, .blk (b) (.cells ([qv, c]).toArray 52)), (1, .own (qv) 57 3 (Bs.wflat (l)))]) (F := []) 25 Try.func65 rfl rfl rfl (Sat.two 0 1 (by decide) hb hv hbv) ?_
  refine cd_seq ?_
  refine cd_region ?_
  refine st (ev_assign rfl) rfl rfl rfl ?_
  refine op_nil ?_
  refine ax_then ?_
  refine At.regs (L' := [(0, _), (2, _)]) (.cons rfl (.cons rfl (.nil _))) ?_
  refine cd_seq ?_
  refine cd_region ?_
  refine st (ev_move rfl) rfl rfl rfl ?_
  refine st (ev_nilCheck rfl) rfl rfl rfl ?_
  refine st (ld_blk1 (h := 0) ty50 rfl rfl rfl rfl) rfl rfl rfl ?_
  refine st (ev_len_own (h := 1) (n := l.length) Try.underlying50 rfl rfl (Bs.wflat_len l) (by decide)) rfl rfl rfl ?_
  refine st (ev_sub64 rfl rfl (by omega) (by omega)) rfl rfl rfl ?_
  refine st (ev_assign rfl) rfl rfl rfl ?_
  refine op_nil ?_
  refine ax_then ?_
  refine At.regs (L' := [(0, _), (2, _), (3, _)]) (.cons rfl (.cons rfl (.cons rfl (.nil _)))) ?_
  refine cd_seq ?_
  refine cd_region ?_
  refine st (ev_move rfl) rfl rfl rfl ?_
  refine st (ev_nilCheck rfl) rfl rfl rfl ?_
  refine st (ld_blk1 (h := 0) ty50 rfl rfl rfl rfl) rfl rfl rfl ?_
  refine st (ev_move rfl) rfl rfl rfl ?_
  refine st (ev_indexAddr_own (h := 1) (n := l.length) Try.underlying50 ty57 rfl rfl rfl (Bs.wflat_len l) (by decide) (by omega) (by omega)) rfl rfl rfl ?_
  refine st (ld_own (k := ((l.length : Int) - 1).toNat * 3) (h := 1) ty57 rfl rfl rfl (by decide) (by rw [Bs.wflat_len]; omega)) rfl rfl rfl ?_
  refine at_eq (i := 15) (v' := .agg (List.toArray [.int .i64 (l.getD (l.length - 1) Bs.w0).id, (l.getD (l.length - 1) Bs.w0).dv, .int .i64 (l.getD (l.length - 1) Bs.w0).came])) rfl (congrArg (fun x => Value.agg (List.toArray x)) (by rw [show ((l.length : Int) - 1).toNat = l.length - 1 by omega]; exact Bs.wflat_get (by omega))) ?_
  refine st_alloc (h := 4) ty57 rfl rfl rfl (fun b4 => ?_)
  refine st_store_all 4 ty57 rfl rfl rfl rfl rfl (by intro u0 hu0; simp only [List.mem_cons, List.not_mem_nil, or_false] at hu0; rcases hu0 with rfl | rfl | rfl; rfl; exact (ho _ (Bs.getD_mem (by omega))); rfl) rfl rfl ?_
  refine op_nil ?_
  refine ax_then ?_
  refine At.regs (L' := [(0, _), (2, _), (3, _), (4, _)]) (.cons rfl (.cons rfl (.cons rfl (.cons rfl (.nil _))))) ?_
  refine cd_seq ?_
  refine cd_region ?_
  refine st (ev_move rfl) rfl rfl rfl ?_
  refine st (ev_move rfl) rfl rfl rfl ?_
  refine st (ev_nilCheck rfl) rfl rfl rfl ?_
  refine st (ld_blk1 (h := 0) ty50 rfl rfl rfl rfl) rfl rfl rfl ?_
  refine st (ev_move rfl) rfl rfl rfl ?_
  refine st (ev_slice_rd_hi (n := l.length) Try.underlying50 ty57 rfl rfl (fun w1 sw => sw.own_rd (h := 1) rfl) (by decide) (Bs.wflat_len l) (by omega) (by omega)) rfl rfl rfl ?_
  refine at_eq (i := 21) (v' := (cutAt 3 qv 0 (l.length - 1))) rfl (by rw [show ((l.length : Int) - 1).toNat = l.length - 1 by omega]) ?_
  refine at_own_take (h := 1) (n := l.length) (hi := l.length - 1) rfl (by decide) (Bs.wflat_len l) (by omega) ?_
  refine at_heq (i := 1) (v' := .own ((cutAt 3 qv 0 (l.length - 1))) 57 3 (Bs.wflat ((l.take (l.length - 1))))) rfl (by rw [Bs.wflat_take l (by omega)]) ?_
  refine at_own_shape (h := 1) rfl (fun hs1 => ?_)
  refine st (ev_nilCheck rfl) rfl rfl rfl ?_
  refine st_store1 0 ty50 rfl rfl rfl hs1.2 (show 0 < 2 from by decide) rfl ?_
  refine at_heq (i := 0) (v' := .blk (b) (.cells ([(cutAt 3 qv 0 (l.length - 1)), c]).toArray 52)) rfl rfl ?_
  refine op_nil ?_
  refine ax_then ?_
  refine At.regs (L' := [(2, _), (4, _)]) (.cons rfl (.cons rfl (.nil _))) ?_
  refine cd_seq ?_
  refine cd_region ?_
  refine st (ld_blk_all (h := 4) ty57 rfl rfl rfl rfl) rfl rfl rfl ?_
  refine st (ev_mkif Try.underlying57 rfl rfl) rfl rfl rfl ?_
  refine st (ev_assign rfl) rfl rfl rfl ?_
  refine op_nil ?_
  refine ax_then ?_
  refine At.regs (L' := [(2, _)]) (.cons rfl (.nil _)) ?_
  refine cd_ret ?_
  refine rt_tmp (.inl rfl) Try.results65 rfl ?_
  exact fun w1 sw => ⟨(), trivial, rfl, sw.gives (N := [(0, _), (1, _)]) (.cons rfl (.cons rfl (.nil _)))⟩
set_option maxRecDepth 20000 in
set_option maxHeartbeats 2000000 in
theorem hpush_any (b : Nat) (qv c : Value) (l : List Bs.W) (x : Bs.W) (w : World) (hx : x.dv.oneCell' = true) (hll : l.length ≤ 100000) (ho : ∀ x, x ∈ l → x.dv.oneCell' = true) (hb : w.heap[b]? = some (.cells (List.toArray [qv, c]) 52)) (hv : Own w qv 57 3 (Bs.wflat l)) (hbv : b ∉ blkOf qv) : Calls Try.prog 17 #[.iface 54 (.pointer (some ⟨b, 0, none⟩)), .iface 57 (.agg (List.toArray [.int .i64 x.id, x.dv, .int .i64 x.came]))] w (Post (ι := Value) w (b :: blkOf qv) (fun _ => True) (fun _ => .tuple #[]) (fun v => [(0, .blk (b) (.cells ([v, c]).toArray 52)), (1, .own (v) 57 3 (Bs.wflat (Bs.upS (l ++ [x]) l.length)))])) := by
  have hl1 : (l ++ [x]).length = l.length + 1 := by simp
  have ho1 : ∀ y, y ∈ l ++ [x] → y.dv.oneCell' = true := fun y hy => (List.mem_append.1 hy).elim (ho y) (fun h => by rw [List.mem_singleton.1 h]; exact hx)
  refine calls_at (vs := [.iface 54 (.pointer (some ⟨b, 0, none⟩)), .iface 57 (.agg (List.toArray [.int .i64 x.id, x.dv, .int .i64 x.came]))]) (X := b :: blkOf qv) (H := [(0, .blk (b) (.cells ([qv, c]).toArray 52)), (1, .own (qv) 57 3 (Bs.wflat (l)))]) (F := []) 12 Try.func17 rfl rfl rfl (Sat.two 0 1 (by decide) hb hv hbv) ?_
  refine cd_seq ?_
  refine cd_region ?_
  refine st (ev_move rfl) rfl rfl rfl ?_
  refine st (ev_move rfl) rfl rfl rfl ?_
  refine st_inv invPush rfl rfl (fun w1 sw => qpush_any b qv c l x w1 hx hll (sw.blk_eq (h := 0) rfl) (sw.hold 1 _ rfl) (sw.apart 0 _ 1 _ rfl rfl (by decide) _ (by simp [Ent.ids]))) (mod_two rfl rfl) rfl rfl (fun v6 _ => ?_)
  refine op_nil ?_
  refine ax_then ?_
  refine At.regs (L' := [(0, _)]) (.cons rfl (.nil _)) ?_
  refine cd_region ?_
  refine st (ev_move rfl) rfl rfl rfl ?_
  refine st (ev_move rfl) rfl rfl rfl ?_
  refine st_invv invLen rfl rfl (fun w1 sw => qlen_any b v6 c (l ++ [x]) w1 (lies_blk (sw.blk_eq (h := 0) rfl)) (sw.own_rd (h := 1) rfl)) rfl rfl ?_
  refine st (ev_sub64 rfl rfl (by omega) (by omega)) rfl rfl rfl ?_
  refine at_eq (i := 10) (v' := .int .i64 (l.length : Nat)) rfl (congrArg (Value.int .i64) (by omega)) ?_
  refine st_call has25 rfl (fun w1 sw => up_any b v6 c (l ++ [x]) l.length w1 (by omega) (by omega) ho1 (sw.blk_eq (h := 0) rfl) (sw.hold 1 _ rfl) (sw.apart 0 _ 1 _ rfl rfl (by decide) _ (by simp [Ent.ids]))) (mod_two rfl rfl) rfl rfl (fun _ _ => ?_)
  refine op_nil ?_
  refine rt_none (.inr rfl) Try.results17 ?_
  exact fun w1 sw => ⟨v6, trivial, rfl, sw.gives (N := [(0, _), (1, _)]) (.cons rfl (.cons rfl (.nil _)))⟩
set_option maxRecDepth 20000 in
set_option maxHeartbeats 2000000 in
theorem hpop_any (b : Nat) (qv c : Value) (l : List Bs.W) (w : World) (hpos : 0 < l.length) (hll : l.length ≤ 100000) (ho : ∀ x, x ∈ l → x.dv.oneCell' = true) (hb : w.heap[b]? = some (.cells (List.toArray [qv, c]) 52)) (hv : Own w qv 57 3 (Bs.wflat l)) (hbv : b ∉ blkOf qv) : Calls Try.prog 19 #[.iface 54 (.pointer (some ⟨b, 0, none⟩))] w (Post (ι := Unit) w (b :: blkOf qv) (fun _ => True) (fun _ => .iface 57 (.agg (List.toArray [.int .i64 ((Bs.downS (Bs.swapS l 0 (l.length - 1)) 0 (l.length - 1)).getD (l.length - 1) Bs.w0).id, ((Bs.downS (Bs.swapS l 0 (l.length - 1)) 0 (l.length - 1)).getD (l.length - 1) Bs.w0).dv, .int .i64 ((Bs.downS (Bs.swapS l 0 (l.length - 1)) 0 (l.length - 1)).getD (l.length - 1) Bs.w0).came]))) (fun _ => [(0, .blk (b) (.cells ([(cutAt 3 qv 0 (l.length - 1)), c]).toArray 52)), (1, .own ((cutAt 3 qv 0 (l.length - 1))) 57 3 (Bs.wflat ((Bs.downS (Bs.swapS l 0 (l.length - 1)) 0 (l.length - 1)).take (l.length - 1))))])) := by
  have hs1 := Bs.swapS_len l 0 (l.length - 1)
  have ho1 := Bs.swapS_one ho (i := 0) (k := (l.length - 1)) (by omega) (by omega)
  have hd1 := Bs.downS_len (Bs.swapS l 0 (l.length - 1)) 0 (l.length - 1)
  have ho2 := Bs.downS_one ho1 0 (l.length - 1) (by omega)
  refine calls_at (vs := [.iface 54 (.pointer (some ⟨b, 0, none⟩))]) (X := b :: blkOf qv) (H := [(0, .blk (b) (.cells ([qv, c]).toArray 52)), (1, .own (qv) 57 3 (Bs.wflat (l)))]) (F := []) 15 Try.func19 rfl rfl rfl (Sat.two 0 1 (by decide) hb hv hbv) ?_
  refine cd_seq ?_
  refine cd_region ?_
  refine st (ev_assign rfl) rfl rfl rfl ?_
  refine op_nil ?_
  refine ax_then ?_
  refine At.regs (L' := [(0, _), (2, _)]) (.cons rfl (.cons rfl (.nil _))) ?_
  refine cd_seq ?_
  refine cd_region ?_
  refine st (ev_move rfl) rfl rfl rfl ?_
  refine st_invv invLen rfl rfl (fun w1 sw => qlen_any b qv c l w1 (lies_blk (sw.blk_eq (h := 0) rfl)) (sw.own_rd (h := 1) rfl)) rfl rfl ?_
  refine st (ev_sub64 rfl rfl (by omega) (by omega)) rfl rfl rfl ?_
  refine at_eq (i := 6) (v' := .int .i64 ((l.length - 1) : Nat)) rfl (congrArg (Value.int .i64) (by omega)) ?_
  refine st (ev_assign rfl) rfl rfl rfl ?_
  refine op_nil ?_
  refine ax_then ?_
  refine At.regs (L' := [(0, _), (2, _), (3, _)]) (.cons rfl (.cons rfl (.cons rfl (.nil _)))) ?_
  refine cd_seq ?_
  refine cd_region ?_
  refine st (ev_move rfl) rfl rfl rfl ?_
  refine st (ev_move rfl) rfl rfl rfl ?_
  refine st_inv invSwap rfl rfl (fun w1 sw => qswap_any b qv c l 0 (l.length - 1) w1 (by omega) (by omega) ho (sw.blk_eq (h := 0) rfl) (sw.hold 1 _ rfl) (sw.apart 0 _ 1 _ rfl rfl (by decide) _ (by simp [Ent.ids]))) (mod_two rfl rfl) rfl rfl (fun _ _ => ?_)
  refine op_nil ?_
  refine ax_then ?_
  refine At.regs (L' := [(0, _), (2, _), (3, _)]) (.cons rfl (.cons rfl (.cons rfl (.nil _)))) ?_
  refine cd_seq ?_
  refine cd_region ?_
  refine st (ev_move rfl) rfl rfl rfl ?_
  refine st (ev_move rfl) rfl rfl rfl ?_
  refine st_call has27 rfl (fun w1 sw => down_any b qv c (Bs.swapS l 0 (l.length - 1)) 0 (l.length - 1) w1 (by omega) (by omega) (by omega) ho1 (sw.blk_eq (h := 0) rfl) (sw.hold 1 _ rfl) (sw.apart 0 _ 1 _ rfl rfl (by decide) _ (by simp [Ent.ids]))) (mod_two rfl rfl) rfl rfl (fun x12 _ => ?_)
  refine op_nil ?_
  refine ax_then ?_
  refine At.regs (L' := [(0, _), (2, _)]) (.cons rfl (.cons rfl (.nil _))) ?_
  refine cd_seq ?_
  refine cd_region ?_
  refine st (ev_move rfl) rfl rfl rfl ?_
  refine st_inv invPop rfl rfl (fun w1 sw => qpop_any b qv c (Bs.downS (Bs.swapS l 0 (l.length - 1)) 0 (l.length - 1)) w1 (by omega) (by omega) ho2 (sw.blk_eq (h := 0) rfl) (sw.hold 1 _ rfl) (sw.apart 0 _ 1 _ rfl rfl (by decide) _ (by simp [Ent.ids]))) (mod_two rfl rfl) rfl rfl (fun _ _ => ?_)
  refine at_eq (i := 14) (v' := .iface 57 (.agg (List.toArray [.int .i64 ((Bs.downS (Bs.swapS l 0 (l.length - 1)) 0 (l.length - 1)).getD (l.length - 1) Bs.w0).id, ((Bs.downS (Bs.swapS l 0 (l.length - 1)) 0 (l.length - 1)).getD (l.length - 1) Bs.w0).dv, .int .i64 ((Bs.downS (Bs.swapS l 0 (l.length - 1)) 0 (l.length - 1)).getD (l.length - 1) Bs.w0).came]))) rfl (by rw [hd1, hs1]) ?_
  refine at_heq (i := 0) (v' := .blk (b) (.cells ([(cutAt 3 qv 0 (l.length - 1)), c]).toArray 52)) rfl (by rw [hd1, hs1]) ?_
  refine at_heq (i := 1) (v' := .own ((cutAt 3 qv 0 (l.length - 1))) 57 3 (Bs.wflat ((Bs.downS (Bs.swapS l 0 (l.length - 1)) 0 (l.length - 1)).take (l.length - 1)))) rfl (by rw [hd1, hs1]) ?_
  refine st (ev_assign rfl) rfl rfl rfl ?_
  refine op_nil ?_
  refine ax_then ?_
  refine At.regs (L' := [(2, _)]) (.cons rfl (.nil _)) ?_
  refine cd_ret ?_
  refine rt_tmp (.inl rfl) Try.results19 rfl ?_
  exact fun w1 sw => ⟨(), trivial, rfl, sw.gives (N := [(0, _), (1, _)]) (.cons rfl (.cons rfl (.nil _)))⟩
end Go.Proofs.Ytfddplpljjlgiaa

namespace Go.Proofs.Ytfddplpljjlgiaa
open Go Go.RowKit Fw
open Bs
set_option linter.unusedVariables false
set_option linter.unusedSimpArgs false
set_option maxRecDepth 20000 in
set_option maxHeartbeats 1000000 in
theorem clone_nil (w : World) : Calls Try.prog 26 #[.slice none 0 0] w (Post (ι := Value) w [] (fun _ => True) (fun v => v) (fun v => [(0, .own (v) 5 1 (ints .u8 ([])))])) := by
  refine calls_at (vs := [.slice none 0 0]) (X := []) (H := []) (F := []) 8 Try.func26 rfl rfl rfl (Sat.start0 w) ?_
  refine cd_seq ?_
  refine cd_region ?_
  refine st (ev_assign rfl) rfl rfl rfl ?_
  refine at_own_nil 2 5 1 ?_
  refine at_heq (i := 2) (v' := .own (.slice none 0 0) 5 1 (ints .u8 [])) rfl rfl ?_
  refine op_nil ?_
  refine ax_then ?_
  refine At.regs (L' := [(0, _), (2, _)]) (.cons rfl (.cons rfl (.nil _))) ?_
  refine cd_seq ?_
  refine cd_seq ?_
  refine cd_region ?_
  refine st (ev_move rfl) rfl rfl rfl ?_
  refine st (ev_eql_slice_nil Try.underlying27 rfl rfl) rfl rfl rfl ?_
  refine op_nil ?_
  refine ax_then ?_
  refine At.regs (L' := [(0, _), (2, _), (4, _)]) (.cons rfl (.cons rfl (.cons rfl (.nil _)))) ?_
  refine cd_true rfl ?_
  refine cd_seq ?_
  refine cd_region ?_
  refine st (ev_assign rfl) rfl rfl rfl ?_
  refine at_own_nil 2 5 1 ?_
  refine at_heq (i := 2) (v' := .own (.slice none 0 0) 5 1 (ints .u8 [])) rfl rfl ?_
  refine op_nil ?_
  refine ax_then ?_
  refine At.regs (L' := [(0, _), (2, _)]) (.cons rfl (.cons rfl (.nil _))) ?_
  refine cd_ret ?_
  refine ax_then_ret ?_
  refine rt_tmp (.inl rfl) Try.results26 rfl ?_
  exact fun w1 sw => ⟨_, trivial, rfl, (sw.gives (N := [(2, _)]) (.cons rfl (.nil _))).rn 0⟩
set_option maxRecDepth 20000 in
set_option maxHeartbeats 1000000 in
theorem clone_some (x : Addr) (n c : Nat) (l : List Int) (w : World) (hl : l.length ≤ 140737488352000) (h : Rd w (.slice (some x) n c) 1 (ints .u8 l)) : Calls Try.prog 26 #[.slice (some x) n c] w (Post (ι := Value) w [] (fun _ => True) (fun v => v) (fun v => [(0, .own (v) 5 1 (ints .u8 (l)))])) := by
  refine calls_at (vs := [.slice (some x) n c]) (X := []) (H := []) (F := [(0, .sl (.slice (some x) n c) 1 (ints .u8 (l)))]) 8 Try.func26 rfl rfl rfl (Sat.rd0 0 h) ?_
  refine cd_seq ?_
  refine cd_region ?_
  refine st (ev_assign rfl) rfl rfl rfl ?_
  refine at_own_nil 2 5 1 ?_
  refine at_heq (i := 2) (v' := .own (.slice none 0 0) 5 1 (ints .u8 [])) rfl rfl ?_
  refine op_nil ?_
  refine ax_then ?_
  refine At.regs (L' := [(0, _), (2, _)]) (.cons rfl (.cons rfl (.nil _))) ?_
  refine cd_seq ?_
  refine cd_seq ?_
  refine cd_region ?_
  refine st (ev_move rfl) rfl rfl rfl ?_
  refine st (ev_eql_slice_nil Try.underlying27 rfl rfl) rfl rfl rfl ?_
  refine op_nil ?_
  refine ax_then ?_
  refine At.regs (L' := [(0, _), (2, _), (4, _)]) (.cons rfl (.cons rfl (.cons rfl (.nil _)))) ?_
  refine cd_false rfl ?_
  refine cd_skip ?_
  refine ax_then ?_
  refine At.regs (L' := [(0, _), (2, _)]) (.cons rfl (.cons rfl (.nil _))) ?_
  refine cd_seq ?_
  refine cd_region ?_
  refine st_bsi (h := 5) (xs := []) Try.underlying27 ty5 (by decide) rfl rfl (by decide) rfl rfl (fun b5 => ?_)
  refine st (ev_move rfl) rfl rfl rfl ?_
  refine st_appendi (h := 5) Try.underlying27 Try.underlying27 ty5 rfl rfl rfl rfl (fun w1 sw => sw.sl_rd (h := 0) rfl) (by first | omega | (simp only [List.length_append, List.length_cons, List.length_nil, List.length_set, List.length_replicate, List.length_take, List.length_drop, ints_length, wr_length] <;> omega)) (by decide) rfl rfl (fun v7 => ?_)
  refine at_heq (i := 5) (v' := .own (v7) 5 1 (ints .u8 (l))) rfl (by rw [List.nil_append]) ?_
  refine st (ev_assign rfl) rfl rfl rfl ?_
  refine op_nil ?_
  refine ax_then ?_
  refine At.regs (L' := [(2, _)]) (.cons rfl (.nil _)) ?_
  refine cd_ret ?_
  refine rt_tmp (.inl rfl) Try.results26 rfl ?_
  exact fun w1 sw => ⟨_, trivial, rfl, (sw.gives (N := [(5, _)]) (.cons rfl (.nil _))).rn 0⟩
theorem clone_any (p : Value) (l : List Int) (w : World) (hl : l.length ≤ 140737488352000) (h : Rd w p 1 (ints .u8 l)) : Calls Try.prog 26 #[p] w (Post (ι := Value) w [] (fun _ => True) (fun v => v) (fun v => [(0, .own (v) 5 1 (ints .u8 (l)))])) := by
  have h' := h
  obtain ⟨a, len, cap, rfl, h1, h2, h3, h4⟩ := h
  cases a with
  | some x => exact clone_some x len cap l w hl h'
  | none =>
    have hc := h3 rfl
    have hn : len = 0 := by omega
    subst hc; subst hn
    have : l = [] := List.length_eq_zero_iff.1 (by rw [ints_length] at h1; omega)
    subst this
    exact clone_nil w
set_option maxRecDepth 20000 in
set_option maxHeartbeats 2000000 in
theorem copied_any (id : Int) (dv : Value) (data : List Int) (w : World) (hl : data.length ≤ 140737488352000) (h : Rd w dv 1 (ints .u8 data)) : Calls Try.prog 18 #[.agg (List.toArray [.int .i64 id, dv])] w (Post (ι := Value) w [] (fun _ => True) (fun v => .agg (List.toArray [.int .i64 id, v])) (fun v => [(0, .own (v) 5 1 (ints .u8 (data)))])) := by
  have hsd := rd_shape h
  refine calls_at (vs := [.agg (List.toArray [.int .i64 id, dv])]) (X := []) (H := []) (F := [(20, .sl (dv) 1 (ints .u8 (data)))]) 9 Try.func18 rfl rfl rfl (Sat.rd0 20 h) ?_
  refine cd_seq ?_
  refine cd_region ?_
  refine st_box (h := 1) rfl rfl rfl rfl (fun b1 => ?_)
  refine st_alloc (h := 2) ty29 rfl rfl rfl (fun b2 => ?_)
  refine op_nil ?_
  refine ax_then ?_
  refine At.regs (L' := [(1, _), (2, _)]) (.cons rfl (.cons rfl (.nil _))) ?_
  refine cd_seq ?_
  refine at_freeze_blk (h := 1) (H' := [(2, _)]) 1 rfl (.cons rfl (.nil _)) rfl ?_
  refine cd_mix hmix ?_
  refine mx (i := 0) rfl (by decide +kernel) (by decide +kernel) (by decide +kernel) rfl (fun w0 => ev_fieldAddr (b := _) Try.underlying29 (f := _) rfl ty3 (by decide) rfl) rfl rfl (Sub.refl _) ?_
  refine mx (i := 1) rfl (by decide +kernel) (by decide +kernel) (by decide +kernel) rfl (fun w0 => ld_mem1 (h := 1) ty3 rfl rfl rfl (Nat.zero_add _).symm rfl) rfl rfl (Sub.refl _) ?_
  refine mx (i := 2) rfl (by decide +kernel) (by decide +kernel) (by decide +kernel) rfl (fun w0 => ev_fieldAddr (b := _) Try.underlying29 (f := _) rfl ty27 (by decide) rfl) rfl rfl (Sub.refl _) ?_
  refine mx (i := 3) rfl (by decide +kernel) (by decide +kernel) (by decide +kernel) rfl (fun w0 => ld_mem1 (h := 1) ty27 rfl rfl rfl (Nat.zero_add _).symm rfl) rfl rfl (Sub.refl _) ?_
  refine mx_one (i := 4) (by decide +kernel) (Sub.refl _) ?_
  refine wo (i := 4) rfl ?_
  refine st_call has26 rfl (fun w1 sw => rn 7 (clone_any dv data w1 hl (sw.sl_rd (h := 20) rfl))) nil_all rfl rfl (fun v7 _ => ?_)
  refine at_own_shape (h := 7) rfl (fun hs7 => ?_)
  refine op_nil ?_
  refine ax_then ?_
  refine mx (i := 5) rfl (by decide +kernel) (by decide +kernel) (by decide +kernel) rfl (fun w0 => ev_build_struct ty29 rfl pl29 rfl ((fill_put (i := 0) (off := 0) (n := 1) (vs := [.int .i64 id]) rfl rfl rfl (Nat.le_of_ble_eq_true rfl)).trans ((fill_put (i := 1) (off := 1) (n := 1) (vs := [v7]) rfl hs7.1 rfl (Nat.le_of_ble_eq_true rfl)).trans fill_nil))) rfl rfl (Sub.refl _) ?_
  refine at_eq (i := 8) (v' := .agg (List.toArray [.int .i64 id, v7])) rfl rfl ?_
  refine mx_one (i := 6) (by decide +kernel) (Sub.refl _) ?_
  refine wo (i := 6) rfl ?_
  refine st_store_all 2 ty29 rfl rfl rfl rfl rfl (by intro u0 hu0; simp only [List.mem_cons, List.not_mem_nil, or_false] at hu0; rcases hu0 with rfl | rfl; rfl; exact hs7.2) rfl rfl ?_
  refine op_nil ?_
  refine ax_then ?_
  refine mx_done (by decide +kernel) (Sub.refl _) ?_
  refine ax_then ?_
  refine At.regs (L' := [(2, _)]) (.cons rfl (.nil _)) ?_
  refine cd_ret ?_
  refine rt_cell (h0 := 2) (.inl rfl) Try.results18 ty29 rfl rfl rfl rfl ?_
  exact fun w1 sw => ⟨v7, trivial, rfl, (sw.gives (N := [(7, _)]) (.cons rfl (.nil _))).rn 0⟩
set_option maxRecDepth 20000 in
set_option maxHeartbeats 1000000 in
theorem blen_any (b : Nat) (qv c : Value) (l : List Bs.W) (w : World) (h : Lies w b 0 [qv, c]) (h' : Rd w qv 3 (Bs.wflat l)) : Calls Try.prog 10 #[.pointer (some ⟨b, 0, none⟩)] w (PostV w (.int .i64 (l.length : Nat))) := by
  refine calls_at (vs := [.pointer (some ⟨b, 0, none⟩)]) (X := []) (H := []) (F := [(21, .mem b 0 [qv, c]), (20, .sl (qv) 3 (Bs.wflat (l)))]) 10 Try.func10 rfl rfl rfl ((Sat.rd0 20 h').read (f := .mem b 0 [qv, c]) 21 h off_nil) ?_
  refine cd_seq ?_
  refine cd_region ?_
  refine st (ev_assign rfl) rfl rfl rfl ?_
  refine op_nil ?_
  refine ax_then ?_
  refine At.regs (L' := [(0, _), (2, _)]) (.cons rfl (.cons rfl (.nil _))) ?_
  refine cd_seq ?_
  refine cd_seq ?_
  refine cd_region ?_
  refine st (ev_move rfl) rfl rfl rfl ?_
  refine st (ev_eql_ptr_nil Try.underlying23 rfl rfl) rfl rfl rfl ?_
  refine op_nil ?_
  refine ax_then ?_
  refine At.regs (L' := [(0, _), (2, _), (4, _)]) (.cons rfl (.cons rfl (.cons rfl (.nil _)))) ?_
  refine cd_false rfl ?_
  refine cd_skip ?_
  refine ax_then ?_
  refine At.regs (L' := [(0, _), (2, _)]) (.cons rfl (.cons rfl (.nil _))) ?_
  refine cd_seq ?_
  refine cd_region ?_
  refine st (ev_move rfl) rfl rfl rfl ?_
  refine st (ev_nilCheck rfl) rfl rfl rfl ?_
  refine st (ev_fieldAddr (b := _) Try.underlying52 (f := _) rfl ty50 (by decide) rfl) rfl rfl rfl ?_
  refine st (ld_mem1 (h := 21) ty50 rfl rfl rfl (Nat.zero_add _).symm rfl) rfl rfl rfl ?_
  refine st (ev_len_rd (h := 20) (n := l.length) Try.underlying50 rfl rfl (Bs.wflat_len l) (by decide)) rfl rfl rfl ?_
  refine st (ev_assign rfl) rfl rfl rfl ?_
  refine op_nil ?_
  refine ax_then ?_
  refine At.regs (L' := [(2, _)]) (.cons rfl (.nil _)) ?_
  refine cd_ret ?_
  refine rt_tmp (.inl rfl) Try.results10 rfl ?_
  exact fun w1 sw => ⟨rfl, sw.gives (.nil _)⟩
set_option maxRecDepth 20000 in
set_option maxHeartbeats 4000000 in
theorem send_ok (b : Nat) (qv dv : Value) (l : List Bs.W) (came : Nat) (id : Int) (data : List Int) (w : World) (hid : 0 ≤ id ∧ id ≤ 2047) (hdl : data.length ≤ 8) (hlen : l.length < 64) (hca : came ≤ 1000000) (hll : l.length ≤ 100000) (ho : ∀ x, x ∈ l → x.dv.oneCell' = true) (hb : w.heap[b]? = some (.cells (List.toArray [qv, .int .i64 (came : Nat)]) 52)) (hv : Own w qv 57 3 (Bs.wflat l)) (hbv : b ∉ blkOf qv) (h : Rd w dv 1 (ints .u8 data)) (hof : FE.off b (.sl (dv) 1 (ints .u8 (data)))) (hof2 : ∀ x, x ∈ blkOf qv → FE.off x (.sl (dv) 1 (ints .u8 (data)))) : Calls Try.prog 8 #[.pointer (some ⟨b, 0, none⟩), .agg (List.toArray [.int .i64 id, dv])] w (PostRM (ι := Value × Value) w (b :: blkOf qv) (fun x => x.2.oneCell' = true) (fun _ => .int .i64 0) (fun x => [(0, .blk (b) (.cells ([x.1, .int .i64 ((came + 1 : Nat) : Int)]).toArray 52)), (1, .own (x.1) 57 3 (Bs.wflat (Bs.upS (l ++ [(⟨id, x.2, data, ((came + 1 : Nat) : Int)⟩ : Bs.W)]) l.length)))]) (fun x => [(x.2, 1, ints .u8 data)])) := by
  have hsd := rd_shape h
  refine calls_at (vs := [.pointer (some ⟨b, 0, none⟩), .agg (List.toArray [.int .i64 id, dv])]) (X := b :: blkOf qv) (H := [(0, .blk (b) (.cells ([qv, .int .i64 (came : Nat)]).toArray 52)), (1, .own (qv) 57 3 (Bs.wflat (l)))]) (F := [(2, .sl (dv) 1 (ints .u8 (data)))]) 51 Try.func8 rfl rfl rfl ((Sat.two 0 1 (by decide) hb hv hbv).read2 (f := .sl (dv) 1 (ints .u8 (data))) 2 h hof hof2) ?_
  refine cd_seq ?_
  refine cd_region ?_
  refine st_box (h := 3) rfl rfl rfl rfl (fun b3 => ?_)
  refine st (ev_assign rfl) rfl rfl rfl ?_
  refine op_nil ?_
  refine ax_then ?_
  refine At.regs (L' := [(0, _), (3, _), (4, _)]) (.cons rfl (.cons rfl (.cons rfl (.nil _)))) ?_
  refine cd_seq ?_
  refine cd_block ?_
  refine cd_seq ?_
  refine cd_region ?_
  refine st (ev_move rfl) rfl rfl rfl ?_
  refine st (ev_eql_ptr_nil Try.underlying23 rfl rfl) rfl rfl rfl ?_
  refine st (ev_move rfl) rfl rfl rfl ?_
  refine st (ev_fieldAddr (b := _) Try.underlying29 (f := _) rfl ty3 (by decide) rfl) rfl rfl rfl ?_
  refine st (ld_blk1 (h := 3) ty3 rfl rfl rfl rfl) rfl rfl rfl ?_
  refine st (ev_lss rfl rfl) rfl rfl rfl ?_
  refine st (ev_pick_f rfl rfl) rfl rfl rfl ?_
  refine st (ev_move rfl) rfl rfl rfl ?_
  refine at_eq (i := 13) (v' := .bool false) rfl (by simp only [Value.bool.injEq, decide_eq_true_eq, decide_eq_false_iff_not]; omega) ?_
  refine st (ev_fieldAddr (b := _) Try.underlying29 (f := _) rfl ty3 (by decide) rfl) rfl rfl rfl ?_
  refine st (ld_blk1 (h := 3) ty3 rfl rfl rfl rfl) rfl rfl rfl ?_
  refine st (ev_gtr rfl rfl) rfl rfl rfl ?_
  refine st (ev_pick_f rfl rfl) rfl rfl rfl ?_
  refine st (ev_move rfl) rfl rfl rfl ?_
  refine at_eq (i := 18) (v' := .bool false) rfl (by simp only [Value.bool.injEq, decide_eq_true_eq, decide_eq_false_iff_not]; omega) ?_
  refine st (ev_fieldAddr (b := _) Try.underlying29 (f := _) rfl ty27 (by decide) rfl) rfl rfl rfl ?_
  refine st (ld_blk1 (h := 3) ty27 rfl rfl rfl rfl) rfl rfl rfl ?_
  refine st (ev_len_rdi (h := 2) Try.underlying27 rfl rfl) rfl rfl rfl ?_
  refine st (ev_gtr rfl rfl) rfl rfl rfl ?_
  refine st (ev_pick_f rfl rfl) rfl rfl rfl ?_
  refine st (ev_assign rfl) rfl rfl rfl ?_
  refine op_nil ?_
  refine ax_then ?_
  refine At.regs (L' := [(0, _), (3, _), (4, _), (5, _)]) (.cons rfl (.cons rfl (.cons rfl (.cons rfl (.nil _))))) ?_
  refine cd_if_f rfl (by omega) ?_
  refine cd_seq ?_
  refine cd_region ?_
  refine st (ev_move rfl) rfl rfl rfl ?_
  refine st (ev_nilCheck rfl) rfl rfl rfl ?_
  refine st (ev_fieldAddr (b := _) Try.underlying52 (f := _) rfl ty50 (by decide) rfl) rfl rfl rfl ?_
  refine st (ld_blk1 (h := 0) ty50 rfl rfl rfl rfl) rfl rfl rfl ?_
  refine st (ev_len_own (h := 1) (n := l.length) Try.underlying50 rfl rfl (Bs.wflat_len l) (by decide)) rfl rfl rfl ?_
  refine st (ev_geq rfl rfl) rfl rfl rfl ?_
  refine st (ev_assign rfl) rfl rfl rfl ?_
  refine op_nil ?_
  refine ax_then ?_
  refine At.regs (L' := [(0, _), (3, _), (4, _), (24, _)]) (.cons rfl (.cons rfl (.cons rfl (.cons rfl (.nil _))))) ?_
  refine cd_if_f rfl (by omega) ?_
  refine cd_skip ?_
  refine ax_block ?_
  refine ax_then ?_
  refine At.regs (L' := [(0, _), (3, _), (4, _)]) (.cons rfl (.cons rfl (.cons rfl (.nil _)))) ?_
  refine cd_seq ?_
  refine cd_region ?_
  refine st (ev_move rfl) rfl rfl rfl ?_
  refine st (ev_nilCheck rfl) rfl rfl rfl ?_
  refine st (ev_fieldAddr (b := _) Try.underlying52 (f := _) rfl ty3 (by decide) rfl) rfl rfl rfl ?_
  refine st (ld_blk1 (h := 0) ty3 rfl rfl rfl rfl) rfl rfl rfl ?_
  refine st (ev_add64 rfl rfl (by omega) (by omega)) rfl rfl rfl ?_
  refine st (ev_nilCheck rfl) rfl rfl rfl ?_
  refine st (ev_fieldAddr (b := _) Try.underlying52 (f := _) rfl ty3 (by decide) rfl) rfl rfl rfl ?_
  refine st_store1 0 ty3 rfl rfl rfl rfl (show 1 < 2 from by decide) rfl ?_
  refine at_heq (i := 0) (v' := .blk (b) (.cells ([qv, .int .i64 ((came + 1 : Nat) : Int)]).toArray 52)) rfl rfl ?_
  refine op_nil ?_
  refine ax_then ?_
  refine At.regs (L' := [(0, _), (3, _), (4, _)]) (.cons rfl (.cons rfl (.cons rfl (.nil _)))) ?_
  refine cd_seq ?_
  refine at_freeze_blk (h := 3) (H' := [(0, _), (1, _)]) 3 rfl (.cons rfl (.cons rfl (.nil _))) rfl ?_
  refine at_rows_nil 200 ?_
  refine cd_mixp [(3, .mem b3 0 [.int .i64 id, dv])] hmix ?_
  refine mxp (i := 0) rfl (by decide +kernel) (by decide +kernel) (by decide +kernel) rfl (fun w0 => ev_move rfl) rfl rfl (fun w sw => sw.cf (.cons rfl (.nil _))) ?_
  refine mxp (i := 1) rfl (by decide +kernel) (by decide +kernel) (by decide +kernel) rfl (fun w0 => ev_nilCheck rfl) rfl rfl (fun w sw => sw.cf (.cons rfl (.nil _))) ?_
  refine mxp (i := 2) rfl (by decide +kernel) (by decide +kernel) (by decide +kernel) rfl (fun w0 => ev_fieldAddr (b := _) Try.underlying52 (f := _) rfl ty50 (by decide) rfl) rfl rfl (fun w sw => sw.cf (.cons rfl (.nil _))) ?_
  refine mxp (i := 3) rfl (by decide +kernel) (by decide +kernel) (by decide +kernel) rfl (fun w0 => ev_mkif Try.underlying54 rfl rfl) rfl rfl (fun w sw => sw.cf (.cons rfl (.nil _))) ?_
  refine mxp (i := 4) rfl (by decide +kernel) (by decide +kernel) (by decide +kernel) rfl (fun w0 => ld_mem_all (h := 3) ty29 rfl rfl rfl rfl) rfl rfl (fun w sw => sw.cf (.cons rfl (.nil _))) ?_
  refine mxp (i := 6) rfl (by decide +kernel) (by decide +kernel) (by decide +kernel) rfl (fun w0 => ev_move rfl) rfl rfl (fun w sw => sw.cf (.cons rfl (.nil _))) ?_
  refine mxp (i := 7) rfl (by decide +kernel) (by decide +kernel) (by decide +kernel) rfl (fun w0 => ev_nilCheck rfl) rfl rfl (fun w sw => sw.cf (.cons rfl (.nil _))) ?_
  refine mxp (i := 8) rfl (by decide +kernel) (by decide +kernel) (by decide +kernel) rfl (fun w0 => ev_fieldAddr (b := _) Try.underlying52 (f := _) rfl ty3 (by decide) rfl) rfl rfl (fun w sw => sw.cf (.cons rfl (.nil _))) ?_
  refine mxp_two (i := 5) (j := 9) (by decide +kernel) (fun w sw => sw.cf (.cons rfl (.nil _))) ?_ ?_
  ·
    refine wo (i := 5) rfl ?_
    refine st_call has18 rfl (fun w1 sw => rn 43 (copied_any id dv data w1 (by omega) (sw.sl_rd (h := 2) rfl))) nil_all rfl rfl (fun v43 _ => ?_)
    refine at_own_shape (h := 43) rfl (fun hs43 => ?_)
    refine at_rows_own (h := 43) (i := 200) (H' := [(0, _), (1, _)]) rfl rfl (.cons rfl (.cons rfl (.nil _))) rfl (fun b' hb' => by rcases List.mem_cons.1 hb' with rfl | hb'; exact ⟨0, _, rfl, by simp [Ent.ids]⟩; exact ⟨1, _, rfl, hb'⟩) (fun hf43 => ?_)
    refine op_nil ?_
    refine ax_then ?_
    refine mxp_one (i := 9) (by decide +kernel) (fun w sw => sw.cf (.cons rfl (.nil _))) ?_
    refine wo (i := 9) rfl ?_
    refine st (ld_blk1 (h := 0) ty3 rfl rfl rfl rfl) rfl rfl rfl ?_
    refine op_nil ?_
    refine ax_then ?_
    refine mxp (i := 10) rfl (by decide +kernel) (by decide +kernel) (by decide +kernel) rfl (fun w0 => ev_build_struct ty57 rfl pl57 rfl ((fill_put (i := 0) (off := 0) (n := 2) (vs := [.int .i64 id, v43]) rfl rfl rfl (Nat.le_of_ble_eq_true rfl)).trans ((fill_put (i := 1) (off := 2) (n := 1) (vs := [.int .i64 ((came + 1 : Nat) : Int)]) rfl rfl rfl (Nat.le_of_ble_eq_true rfl)).trans fill_nil))) rfl rfl (fun w sw => sw.cf (.cons rfl (.nil _))) ?_
    refine at_eq (i := 48) (v' := .agg (List.toArray [.int .i64 (⟨id, v43, data, ((came + 1 : Nat) : Int)⟩ : Bs.W).id, (⟨id, v43, data, ((came + 1 : Nat) : Int)⟩ : Bs.W).dv, .int .i64 (⟨id, v43, data, ((came + 1 : Nat) : Int)⟩ : Bs.W).came])) rfl rfl ?_
    refine mxp (i := 11) rfl (by decide +kernel) (by decide +kernel) (by decide +kernel) rfl (fun w0 => ev_mkif Try.underlying57 rfl rfl) rfl rfl (fun w sw => sw.cf (.cons rfl (.nil _))) ?_
    refine mxp_one (i := 12) (by decide +kernel) (fun w sw => sw.cf (.cons rfl (.nil _))) ?_
    refine wo (i := 12) rfl ?_
    refine st_call has17 rfl (fun w1 sw => hpush_any b qv (.int .i64 ((came + 1 : Nat) : Int)) l (⟨id, v43, data, ((came + 1 : Nat) : Int)⟩ : Bs.W) w1 hs43.2 hll ho (sw.blk_eq (h := 0) rfl) (sw.hold 1 _ rfl) (sw.apart 0 _ 1 _ rfl rfl (by decide) _ (by simp [Ent.ids]))) (mod_two rfl rfl) rfl rfl (fun v50 _ => ?_)
    refine op_nil ?_
    refine ax_then ?_
    refine mxp_done (by decide +kernel) (fun w sw => sw.cf (.cons rfl (.nil _))) ?_
    refine ax_then ?_
    refine At.regs (L' := [(4, _)]) (.cons rfl (.nil _)) ?_
    refine cd_seq ?_
    refine cd_region ?_
    refine st (ev_assign rfl) rfl rfl rfl ?_
    refine op_nil ?_
    refine ax_then ?_
    refine At.regs (L' := [(4, _)]) (.cons rfl (.nil _)) ?_
    refine cd_ret ?_
    refine rt_tmp (.inl rfl) Try.results8 rfl ?_
    exact fun w1 sw => ⟨(v50, v43), hs43.2, rfl, sw.gives (N := [(0, _), (1, _)]) (.cons rfl (.cons rfl (.nil _))), (fun y hy => ⟨sw.rd 200 _ rfl y hy, by rw [List.mem_singleton.1 hy]; exact hf43⟩), fun h e hh b' hb' => by
      rcases lk_two hh with ⟨rfl, rfl⟩ | ⟨rfl, _, rfl⟩
      · exact sw.off 200 _ 0 _ rfl rfl b' hb'
      · exact sw.off 200 _ 1 _ rfl rfl b' hb'⟩
  ·
    refine wo (i := 9) rfl ?_
    refine st (ld_blk1 (h := 0) ty3 rfl rfl rfl rfl) rfl rfl rfl ?_
    refine op_nil ?_
    refine ax_then ?_
    refine mxp_one (i := 5) (by decide +kernel) (fun w sw => sw.cf (.cons rfl (.nil _))) ?_
    refine wo (i := 5) rfl ?_
    refine st_call has18 rfl (fun w1 sw => rn 43 (copied_any id dv data w1 (by omega) (sw.sl_rd (h := 2) rfl))) nil_all rfl rfl (fun v43 _ => ?_)
    refine at_own_shape (h := 43) rfl (fun hs43 => ?_)
    refine at_rows_own (h := 43) (i := 200) (H' := [(0, _), (1, _)]) rfl rfl (.cons rfl (.cons rfl (.nil _))) rfl (fun b' hb' => by rcases List.mem_cons.1 hb' with rfl | hb'; exact ⟨0, _, rfl, by simp [Ent.ids]⟩; exact ⟨1, _, rfl, hb'⟩) (fun hf43 => ?_)
    refine op_nil ?_
    refine ax_then ?_
    refine mxp (i := 10) rfl (by decide +kernel) (by decide +kernel) (by decide +kernel) rfl (fun w0 => ev_build_struct ty57 rfl pl57 rfl ((fill_put (i := 0) (off := 0) (n := 2) (vs := [.int .i64 id, v43]) rfl rfl rfl (Nat.le_of_ble_eq_true rfl)).trans ((fill_put (i := 1) (off := 2) (n := 1) (vs := [.int .i64 ((came + 1 : Nat) : Int)]) rfl rfl rfl (Nat.le_of_ble_eq_true rfl)).trans fill_nil))) rfl rfl (fun w sw => sw.cf (.cons rfl (.nil _))) ?_
    refine at_eq (i := 48) (v' := .agg (List.toArray [.int .i64 (⟨id, v43, data, ((came + 1 : Nat) : Int)⟩ : Bs.W).id, (⟨id, v43, data, ((came + 1 : Nat) : Int)⟩ : Bs.W).dv, .int .i64 (⟨id, v43, data, ((came + 1 : Nat) : Int)⟩ : Bs.W).came])) rfl rfl ?_
    refine mxp (i := 11) rfl (by decide +kernel) (by decide +kernel) (by decide +kernel) rfl (fun w0 => ev_mkif Try.underlying57 rfl rfl) rfl rfl (fun w sw => sw.cf (.cons rfl (.nil _))) ?_
    refine mxp_one (i := 12) (by decide +kernel) (fun w sw => sw.cf (.cons rfl (.nil _))) ?_
    refine wo (i := 12) rfl ?_
    refine st_call has17 rfl (fun w1 sw => hpush_any b qv (.int .i64 ((came + 1 : Nat) : Int)) l (⟨id, v43, data, ((came + 1 : Nat) : Int)⟩ : Bs.W) w1 hs43.2 hll ho (sw.blk_eq (h := 0) rfl) (sw.hold 1 _ rfl) (sw.apart 0 _ 1 _ rfl rfl (by decide) _ (by simp [Ent.ids]))) (mod_two rfl rfl) rfl rfl (fun v50 _ => ?_)
    refine op_nil ?_
    refine ax_then ?_
    refine mxp_done (by decide +kernel) (fun w sw => sw.cf (.cons rfl (.nil _))) ?_
    refine ax_then ?_
    refine At.regs (L' := [(4, _)]) (.cons rfl (.nil _)) ?_
    refine cd_seq ?_
    refine cd_region ?_
    refine st (ev_assign rfl) rfl rfl rfl ?_
    refine op_nil ?_
    refine ax_then ?_
    refine At.regs (L' := [(4, _)]) (.cons rfl (.nil _)) ?_
    refine cd_ret ?_
    refine rt_tmp (.inl rfl) Try.results8 rfl ?_
    exact fun w1 sw => ⟨(v50, v43), hs43.2, rfl, sw.gives (N := [(0, _), (1, _)]) (.cons rfl (.cons rfl (.nil _))), (fun y hy => ⟨sw.rd 200 _ rfl y hy, by rw [List.mem_singleton.1 hy]; exact hf43⟩), fun h e hh b' hb' => by
      rcases lk_two hh with ⟨rfl, rfl⟩ | ⟨rfl, _, rfl⟩
      · exact sw.off 200 _ 0 _ rfl rfl b' hb'
      · exact sw.off 200 _ 1 _ rfl rfl b' hb'⟩
end Go.Proofs.Ytfddplpljjlgiaa

namespace Go.Proofs.Ytfddplpljjlgiaa.Bs
open Go Fw Go.Proofs.Ytfddplpljjlgiaa
theorem known2 (v v' : Value) : upS ([(⟨5, v, [], 1⟩ : W)] ++ [⟨3, v', [], 2⟩]) 1 = [⟨3, v', [], 2⟩, ⟨5, v, [], 1⟩] := by
  rw [upS_step (by decide) (.inl (by show (3 : Int) < 5; decide)), upS_stop (.inl rfl)]
  rfl
theorem known3 (v v' : Value) : downS (swapS [(⟨3, v', [], 2⟩ : W), ⟨5, v, [], 1⟩] 0 ([(⟨3, v', [], 2⟩ : W), ⟨5, v, [], 1⟩].length - 1)) 0 ([(⟨3, v', [], 2⟩ : W), ⟨5, v, [], 1⟩].length - 1) = [⟨5, v, [], 1⟩, ⟨3, v', [], 2⟩] := by
  show downS (swapS _ 0 1) 0 1 = _
  rw [downS_stop (.inl (by decide))]
  rfl
theorem upF_len : ∀ (f : Nat) (l : List W) (j : Nat), (upF f l j).length = l.length
  | 0, _, _ => rfl
  | f + 1, l, j => by
    rw [upF]
    split
    · rfl
    · rw [upF_len f, swapS_len]
theorem upS_len (l : List W) (j : Nat) : (upS l j).length = l.length := upF_len _ _ _
end Go.Proofs.Ytfddplpljjlgiaa.Bs

namespace Go.Proofs.Ytfddplpljjlgiaa
open Go Go.RowKit Fw
open Bs
set_option linter.unusedVariables false
set_option linter.unusedSimpArgs false
set_option maxRecDepth 20000 in
set_option maxHeartbeats 1000000 in
theorem new_any (w : World) : Calls Try.prog 7 #[] w (Post (ι := Nat) w [] (fun _ => True) (fun x => .pointer (some ⟨x, 0, none⟩)) (fun x => [(0, .blk (x) (.cells ([.slice none 0 0, .int .i64 ((0 : Nat) : Int)]).toArray 52)), (1, .own (.slice none 0 0) 57 3 (Bs.wflat ([])))])) := by
  refine calls_at (vs := []) (X := []) (H := []) (F := []) 3 Try.func7 rfl rfl rfl (Sat.start0 w) ?_
  refine cd_seq ?_
  refine cd_region ?_
  refine st (ev_assign rfl) rfl rfl rfl ?_
  refine op_nil ?_
  refine ax_then ?_
  refine At.regs (L' := [(0, _)]) (.cons rfl (.nil _)) ?_
  refine cd_seq ?_
  refine cd_region ?_
  refine st (ev_build_struct ty52 rfl pl52 rfl rfl) rfl rfl rfl ?_
  refine st_box (h := 2) rfl rfl rfl rfl (fun b2 => ?_)
  refine at_own_nil 1 57 3 ?_
  refine at_heq (i := 1) (v' := .own (.slice none 0 0) 57 3 (Bs.wflat ([]))) rfl rfl ?_
  refine st (ev_assign rfl) rfl rfl rfl ?_
  refine op_nil ?_
  refine ax_then ?_
  refine At.regs (L' := [(0, _)]) (.cons rfl (.nil _)) ?_
  refine cd_ret ?_
  refine rt_tmp (.inl rfl) Try.results7 rfl ?_
  exact fun w1 sw => ⟨b2, trivial, rfl, (sw.gives (N := [(2, _), (1, _)]) (.cons rfl (.cons rfl (.nil _)))).rn2 (by decide) 0 1⟩
set_option maxRecDepth 20000 in
set_option maxHeartbeats 2000000 in
theorem next_ok (b : Nat) (qv : Value) (l : List Bs.W) (came : Nat) (w : World) (hpos : 0 < l.length) (hll : l.length ≤ 100000) (ho : ∀ x, x ∈ l → x.dv.oneCell' = true) (hb : w.heap[b]? = some (.cells (List.toArray [qv, .int .i64 (came : Nat)]) 52)) (hv : Own w qv 57 3 (Bs.wflat l)) (hbv : b ∉ blkOf qv) : Calls Try.prog 9 #[.pointer (some ⟨b, 0, none⟩)] w (Post (ι := Unit) w (b :: blkOf qv) (fun _ => True) (fun _ => .tuple #[.agg (List.toArray [.int .i64 ((Bs.downS (Bs.swapS l 0 (l.length - 1)) 0 (l.length - 1)).getD (l.length - 1) Bs.w0).id, ((Bs.downS (Bs.swapS l 0 (l.length - 1)) 0 (l.length - 1)).getD (l.length - 1) Bs.w0).dv]), .bool true]) (fun _ => [(0, .blk (b) (.cells ([(cutAt 3 qv 0 (l.length - 1)), .int .i64 (came : Nat)]).toArray 52)), (1, .own ((cutAt 3 qv 0 (l.length - 1))) 57 3 (Bs.wflat ((Bs.downS (Bs.swapS l 0 (l.length - 1)) 0 (l.length - 1)).take (l.length - 1))))])) := by
  have ho2 := Bs.downS_one (Bs.swapS_one ho (i := 0) (k := (l.length - 1)) (by omega) (by omega)) 0 (l.length - 1) (by rw [Bs.swapS_len]; omega)
  have hlast := ho2 _ (Bs.getD_mem (i := (l.length - 1)) (by rw [Bs.downS_len, Bs.swapS_len]; omega))
  refine calls_at (vs := [.pointer (some ⟨b, 0, none⟩)]) (X := b :: blkOf qv) (H := [(0, .blk (b) (.cells ([qv, .int .i64 (came : Nat)]).toArray 52)), (1, .own (qv) 57 3 (Bs.wflat (l)))]) (F := []) 22 Try.func9 rfl rfl rfl (Sat.two 0 1 (by decide) hb hv hbv) ?_
  refine cd_seq ?_
  refine cd_region ?_
  refine st_alloc (h := 2) ty29 rfl rfl rfl (fun b2 => ?_)
  refine st (ev_assign rfl) rfl rfl rfl ?_
  refine op_nil ?_
  refine ax_then ?_
  refine At.regs (L' := [(0, _), (2, _), (3, _)]) (.cons rfl (.cons rfl (.cons rfl (.nil _)))) ?_
  refine cd_seq ?_
  refine cd_seq ?_
  refine cd_region ?_
  refine st (ev_move rfl) rfl rfl rfl ?_
  refine st_callv has10 rfl (fun w1 sw => blen_any b qv (.int .i64 (came : Nat)) l w1 (lies_blk (sw.blk_eq (h := 0) rfl)) (sw.own_rd (h := 1) rfl)) rfl rfl ?_
  refine st (ev_eql rfl rfl) rfl rfl rfl ?_
  refine op_nil ?_
  refine ax_then ?_
  refine At.regs (L' := [(0, _), (2, _), (3, _), (8, _)]) (.cons rfl (.cons rfl (.cons rfl (.cons rfl (.nil _))))) ?_
  refine cd_if_f rfl (by omega) ?_
  refine cd_skip ?_
  refine ax_then ?_
  refine At.regs (L' := [(0, _), (2, _), (3, _)]) (.cons rfl (.cons rfl (.cons rfl (.nil _)))) ?_
  refine cd_seq ?_
  refine cd_region ?_
  refine st (ev_move rfl) rfl rfl rfl ?_
  refine st (ev_nilCheck rfl) rfl rfl rfl ?_
  refine st (ev_fieldAddr (b := _) Try.underlying52 (f := _) rfl ty50 (by decide) rfl) rfl rfl rfl ?_
  refine st (ev_mkif Try.underlying54 rfl rfl) rfl rfl rfl ?_
  refine st_call has19 rfl (fun w1 sw => hpop_any b qv (.int .i64 (came : Nat)) l w1 hpos hll ho (sw.blk_eq (h := 0) rfl) (sw.hold 1 _ rfl) (sw.apart 0 _ 1 _ rfl rfl (by decide) _ (by simp [Ent.ids]))) (mod_two rfl rfl) rfl rfl (fun _ _ => ?_)
  refine st (ev_assert Try.underlying57 rfl rfl) rfl rfl rfl ?_
  refine st (ev_move rfl) rfl rfl rfl ?_
  refine st (ev_extract rfl rfl) rfl rfl rfl ?_
  refine st (ev_extract rfl rfl) rfl rfl rfl ?_
  refine st_alloc (h := 4) ty57 rfl rfl rfl (fun b4 => ?_)
  refine st_store_all 4 ty57 rfl rfl rfl rfl rfl (by intro u0 hu0; simp only [List.mem_cons, List.not_mem_nil, or_false] at hu0; rcases hu0 with rfl | rfl | rfl; rfl; exact hlast; rfl) rfl rfl ?_
  refine st (ev_assign rfl) rfl rfl rfl ?_
  refine op_nil ?_
  refine ax_then ?_
  refine At.regs (L' := [(2, _), (3, _), (4, _), (5, _)]) (.cons rfl (.cons rfl (.cons rfl (.cons rfl (.nil _))))) ?_
  refine cd_seq ?_
  refine cd_region ?_
  refine st (ev_fieldAddr (b := _) Try.underlying57 (f := _) rfl ty29 (by decide) rfl) rfl rfl rfl ?_
  refine st (ld_blk (h := 4) ty29 rfl rfl rfl (Nat.le_of_ble_eq_true rfl)) rfl rfl rfl ?_
  refine at_eq (i := 20) (v' := .agg (List.toArray [.int .i64 ((Bs.downS (Bs.swapS l 0 (l.length - 1)) 0 (l.length - 1)).getD (l.length - 1) Bs.w0).id, ((Bs.downS (Bs.swapS l 0 (l.length - 1)) 0 (l.length - 1)).getD (l.length - 1) Bs.w0).dv])) rfl rfl ?_
  refine st (ev_move rfl) rfl rfl rfl ?_
  refine st_store_all 2 ty29 rfl rfl rfl rfl rfl (by intro u0 hu0; simp only [List.mem_cons, List.not_mem_nil, or_false] at hu0; rcases hu0 with rfl | rfl; rfl; exact hlast) rfl rfl ?_
  refine st (ev_assign rfl) rfl rfl rfl ?_
  refine op_nil ?_
  refine ax_then ?_
  refine At.regs (L' := [(2, _), (3, _)]) (.cons rfl (.cons rfl (.nil _))) ?_
  refine cd_ret ?_
  refine rt_cell_tmp (h0 := 2) (.inl rfl) Try.results9 ty29 rfl rfl rfl rfl rfl ?_
  exact fun w1 sw => ⟨(), trivial, rfl, sw.gives (N := [(0, _), (1, _)]) (.cons rfl (.cons rfl (.nil _)))⟩
theorem rd_nil1 {w : World} : Rd w (.slice none 0 0) 1 (ints .u8 []) := ⟨none, 0, 0, rfl, rfl, Nat.le_refl _, fun _ => rfl, fun x hx => by cases hx⟩
set_option maxRecDepth 20000 in
set_option maxHeartbeats 2000000 in
theorem known14_any (w : World) : Calls Try.prog 11 #[] w (PostV w (.bool true)) := by
  refine calls_at (vs := []) (X := []) (H := []) (F := []) 29 Try.func11 rfl rfl rfl (Sat.start0 w) ?_
  refine cd_seq ?_
  refine cd_region ?_
  refine st (ev_assign rfl) rfl rfl rfl ?_
  refine op_nil ?_
  refine ax_then ?_
  refine At.regs (L' := [(0, _)]) (.cons rfl (.nil _)) ?_
  refine cd_seq ?_
  refine cd_region ?_
  refine st_call has7 rfl (fun w1 sw => new_any w1) nil_all rfl rfl (fun b4 _ => ?_)
  refine st (ev_assign rfl) rfl rfl rfl ?_
  refine op_nil ?_
  refine ax_then ?_
  refine At.regs (L' := [(0, _), (1, _)]) (.cons rfl (.cons rfl (.nil _))) ?_
  refine cd_seq ?_
  refine cd_seq ?_
  refine cd_region ?_
  refine st (ev_move rfl) rfl rfl rfl ?_
  refine st (ev_eql_ptr_nil Try.underlying23 rfl rfl) rfl rfl rfl ?_
  refine op_nil ?_
  refine ax_then ?_
  refine At.regs (L' := [(0, _), (1, _), (6, _)]) (.cons rfl (.cons rfl (.cons rfl (.nil _)))) ?_
  refine cd_false rfl ?_
  refine cd_skip ?_
  refine ax_then ?_
  refine At.regs (L' := [(0, _), (1, _)]) (.cons rfl (.cons rfl (.nil _))) ?_
  refine cd_seq ?_
  refine cd_region ?_
  refine st (ev_move rfl) rfl rfl rfl ?_
  refine st (ev_build_struct ty29 rfl pl29 rfl ((fill_put (i := 0) (off := 0) (n := 1) (vs := [.int .i64 5]) rfl rfl rfl (Nat.le_of_ble_eq_true rfl)).trans fill_nil)) rfl rfl rfl ?_
  refine at_eq (i := 8) (v' := .agg (List.toArray [.int .i64 5, .slice none 0 0])) rfl rfl ?_
  refine st_callRM 209 has8 rfl (fun w1 sw => send_ok b4 (.slice none 0 0) (.slice none 0 0) [] 0 5 [] w1 ⟨by decide, by decide⟩ (by decide) (Nat.le_of_ble_eq_true rfl) (by decide) (Nat.le_of_ble_eq_true rfl) (fun y hy => by cases hy) (sw.blk_eq (h := 0) rfl) (sw.hold 1 _ rfl) (sw.apart 0 _ 1 _ rfl rfl (by decide) _ (by simp [Ent.ids])) rd_nil1 (.inl rfl) (fun _ _ => .inl rfl)) (mod_two rfl rfl) rfl rfl (fun x9 hx9 hf9 => ?_)
  obtain ⟨q9, v9⟩ := x9
  dsimp only at hx9 ⊢
  refine at_heq (i := 1) (v' := .own (q9) 57 3 (Bs.wflat ([(⟨5, v9, [], 1⟩ : Bs.W)]))) rfl (congrArg (fun z => Ent.own q9 57 3 (Bs.wflat z)) (Bs.upS_stop (.inl rfl))) ?_
  refine op_nil ?_
  refine ax_then ?_
  refine At.regs (L' := [(0, _), (1, _)]) (.cons rfl (.cons rfl (.nil _))) ?_
  refine cd_seq ?_
  refine cd_region ?_
  refine st (ev_move rfl) rfl rfl rfl ?_
  refine st (ev_build_struct ty29 rfl pl29 rfl ((fill_put (i := 0) (off := 0) (n := 1) (vs := [.int .i64 3]) rfl rfl rfl (Nat.le_of_ble_eq_true rfl)).trans fill_nil)) rfl rfl rfl ?_
  refine at_eq (i := 11) (v' := .agg (List.toArray [.int .i64 3, .slice none 0 0])) rfl rfl ?_
  refine st_callRM 212 has8 rfl (fun w1 sw => send_ok b4 q9 (.slice none 0 0) [(⟨5, v9, [], 1⟩ : Bs.W)] 1 3 [] w1 ⟨by decide, by decide⟩ (by decide) (Nat.le_of_ble_eq_true rfl) (by decide) (Nat.le_of_ble_eq_true rfl) (fun y hy => by rw [List.mem_singleton.1 hy]; exact hx9) (sw.blk_eq (h := 0) rfl) (sw.hold 1 _ rfl) (sw.apart 0 _ 1 _ rfl rfl (by decide) _ (by simp [Ent.ids])) rd_nil1 (.inl rfl) (fun _ _ => .inl rfl)) (mod_two rfl rfl) rfl rfl (fun x12 hx12 hf12 => ?_)
  obtain ⟨q12, v12⟩ := x12
  dsimp only at hx12 ⊢
  refine at_heq (i := 1) (v' := .own (q12) 57 3 (Bs.wflat ([(⟨3, v12, [], 2⟩ : Bs.W), (⟨5, v9, [], 1⟩ : Bs.W)]))) rfl (congrArg (fun z => Ent.own q12 57 3 (Bs.wflat z)) (Bs.known2 v9 v12)) ?_
  refine op_nil ?_
  refine ax_then ?_
  refine At.regs (L' := [(0, _), (1, _)]) (.cons rfl (.cons rfl (.nil _))) ?_
  refine cd_seq ?_
  refine cd_region ?_
  refine st (ev_move rfl) rfl rfl rfl ?_
  refine st_call has9 rfl (fun w1 sw => next_ok b4 q12 [(⟨3, v12, [], 2⟩ : Bs.W), (⟨5, v9, [], 1⟩ : Bs.W)] 2 w1 (Nat.le_of_ble_eq_true rfl) (Nat.le_of_ble_eq_true rfl) (fun y hy => by simp only [List.mem_cons, List.not_mem_nil, or_false] at hy; rcases hy with rfl | rfl; exact hx12; exact hx9) (sw.blk_eq (h := 0) rfl) (sw.hold 1 _ rfl) (sw.apart 0 _ 1 _ rfl rfl (by decide) _ (by simp [Ent.ids]))) (mod_two rfl rfl) rfl rfl (fun _ _ => ?_)
  refine at_eq (i := 15) (v' := .tuple #[.agg (List.toArray [.int .i64 3, v12]), .bool true]) rfl (by rw [Bs.known3 v9 v12]; rfl) ?_
  refine at_heq (i := 1) (v' := .own ((cutAt 3 q12 0 1)) 57 3 (Bs.wflat ([(⟨5, v9, [], 1⟩ : Bs.W)]))) rfl (by rw [Bs.known3 v9 v12]; rfl) ?_
  refine st (ev_move rfl) rfl rfl rfl ?_
  refine st (ev_extract rfl rfl) rfl rfl rfl ?_
  refine st (ev_extract rfl rfl) rfl rfl rfl ?_
  refine st_alloc (h := 2) ty29 rfl rfl rfl (fun b2 => ?_)
  refine st_store_all 2 ty29 rfl rfl rfl rfl rfl (by intro u0 hu0; simp only [List.mem_cons, List.not_mem_nil, or_false] at hu0; rcases hu0 with rfl | rfl; rfl; exact hx12) rfl rfl ?_
  refine st (ev_assign rfl) rfl rfl rfl ?_
  refine op_nil ?_
  refine ax_then ?_
  refine At.regs (L' := [(0, _), (1, _), (2, _), (3, _)]) (.cons rfl (.cons rfl (.cons rfl (.cons rfl (.nil _))))) ?_
  refine cd_seq ?_
  refine cd_region ?_
  refine st (ev_move rfl) rfl rfl rfl ?_
  refine st (ev_move rfl) rfl rfl rfl ?_
  refine st (ev_fieldAddr (b := _) Try.underlying29 (f := _) rfl ty3 (by decide) rfl) rfl rfl rfl ?_
  refine st (ld_blk1 (h := 2) ty3 rfl rfl rfl rfl) rfl rfl rfl ?_
  refine st (ev_eql rfl rfl) rfl rfl rfl ?_
  refine st (ev_pick_t rfl rfl) rfl rfl rfl ?_
  refine st (ev_move rfl) rfl rfl rfl ?_
  refine at_eq (i := 24) (v' := .bool true) rfl (by rw [decide_eq_true rfl]) ?_
  refine st (ev_move rfl) rfl rfl rfl ?_
  refine st_callv has10 rfl (fun w1 sw => blen_any b4 (cutAt 3 q12 0 1) (.int .i64 ((2 : Nat) : Int)) [(⟨5, v9, [], 1⟩ : Bs.W)] w1 (lies_blk (sw.blk_eq (h := 0) rfl)) (sw.own_rd (h := 1) rfl)) rfl rfl ?_
  refine st (ev_eql rfl rfl) rfl rfl rfl ?_
  refine st (ev_pick_t rfl rfl) rfl rfl rfl ?_
  refine st (ev_assign rfl) rfl rfl rfl ?_
  refine op_nil ?_
  refine ax_then ?_
  refine At.regs (L' := [(0, _)]) (.cons rfl (.nil _)) ?_
  refine cd_ret ?_
  refine rt_tmp (.inl rfl) Try.results11 rfl ?_
  exact fun w1 sw => ⟨rfl, sw.gives (.nil _)⟩
end Go.Proofs.Ytfddplpljjlgiaa

namespace Go.Proofs.Ytfddplpljjlgiaa.Bs
open Go Fw Go.Proofs.Ytfddplpljjlgiaa
set_option linter.unusedSimpArgs false
set_option linter.unusedVariables false
structure WB where
  val : W
  one : val.dv.oneCell' = true
instance : Inhabited WB := ⟨⟨w0, rfl⟩⟩
def cf (x y : WB) : Int := if bef x.1 y.1 then -1 else 1
theorem bef_irrefl (x : W) : ¬ bef x x := by unfold bef; omega
theorem bef_trans {x y z : W} (h1 : bef x y) (h2 : bef y z) : bef x z := by unfold bef at *; omega
theorem bef_ntrans {x y z : W} (h1 : ¬ bef x y) (h2 : ¬ bef y z) : ¬ bef x z := by unfold bef at *; omega
end Go.Proofs.Ytfddplpljjlgiaa.Bs

namespace Go.Proofs.Ytfddplpljjlgiaa
open Go Go.RowKit Go.Shelf Go.Lib Go.Sort
def cf (x y : Bs.W) : Int := if Bs.bef x y then -1 else 1
end Go.Proofs.Ytfddplpljjlgiaa

namespace Go.Proofs.Ytfddplpljjlgiaa.Bs
open Go Fw Go.Proofs.Ytfddplpljjlgiaa
set_option linter.unusedSimpArgs false
set_option linter.unusedVariables false
def key (x : W) : Int × List Int := (x.id, x.data)
theorem wrows_mem {l : List W} {x : W} (h : x ∈ l) : (x.dv, 1, ints .u8 x.data) ∈ wrows l := List.mem_map.2 ⟨x, h, rfl⟩
end Go.Proofs.Ytfddplpljjlgiaa.Bs

namespace Go.Proofs.Ytfddplpljjlgiaa.Bs
open Go Fw Go.Proofs.Ytfddplpljjlgiaa
set_option linter.unusedSimpArgs false
set_option linter.unusedVariables false
theorem swapS_get {l : List W} {i k : Nat} (hi : i < l.length) (hk : k < l.length) (j : Nat) : (swapS l i k).getD j w0 = if j = k then l.getD i w0 else if j = i then l.getD k w0 else l.getD j w0 := by
  unfold swapS
  simp only [List.getD_eq_getElem?_getD, List.getElem?_set]
  by_cases h1 : k = j
  · subst h1; simp [hk]
  · by_cases h2 : i = j
    · subst h2; simp [h1, hi, Ne.symm h1]
    · simp [h1, h2, Ne.symm h1, Ne.symm h2]
theorem swapS_perm {l : List W} {i k : Nat} (hi : i < l.length) (hk : k < l.length) : (swapS l i k).Perm l := by
  have := List.set_set_perm hi hk
  unfold swapS
  rw [List.getD_eq_getElem?_getD, List.getElem?_eq_getElem hk, List.getD_eq_getElem?_getD, List.getElem?_eq_getElem hi]
  exact this
theorem bef_asymm {x y : W} (h : bef x y) : ¬ bef y x := fun h2 => bef_irrefl x (bef_trans h h2)
/-- of the first n none is before the one above it -/
def Hp (l : List W) (n : Nat) : Prop := ∀ j, 0 < j → j < n → ¬ bef (l.getD j w0) (l.getD ((j - 1) / 2) w0)
theorem hp_min {l : List W} {n : Nat} (h : Hp l n) : ∀ j, j < n → ¬ bef (l.getD j w0) (l.getD 0 w0) := by
  intro j
  induction j using Nat.strongRecOn with
  | ind j ih =>
    intro hj
    by_cases h0 : j = 0
    · subst h0; exact bef_irrefl _
    · exact bef_ntrans (h j (by omega) hj) (ih ((j - 1) / 2) (by omega) (by omega))
theorem upF_hp : ∀ (f : Nat) (l : List W) (n j : Nat), j < f → j < n → n ≤ l.length → (∀ i, 0 < i → i < n → i ≠ j → ¬ bef (l.getD i w0) (l.getD ((i - 1) / 2) w0)) →
    (∀ i, 0 < i → i < n → (i - 1) / 2 = j → 0 < j → ¬ bef (l.getD i w0) (l.getD ((j - 1) / 2) w0)) → Hp (upF f l j) n
  | 0, _, _, _, h, _, _, _, _ => absurd h (Nat.not_lt_zero _)
  | f + 1, l, n, j, hf, hj, hn, h1, h2 => by
    rw [upF]
    split
    · next h =>
      intro i hi hin
      by_cases hij : i = j
      · subst hij; exact h.elim (fun h => by omega) id
      · exact h1 i hi hin hij
    · next h =>
      have hj0 : j ≠ 0 := fun hc => h (.inl hc)
      have hb : bef (l.getD j w0) (l.getD ((j - 1) / 2) w0) := Classical.byContradiction fun hc => h (.inr hc)
      have hp : (j - 1) / 2 < j := by omega
      have hjl : j < l.length := by omega
      have hpl : (j - 1) / 2 < l.length := by omega
      refine upF_hp f _ n _ (by omega) (by omega) (by rw [swapS_len]; exact hn) ?_ ?_
      · intro i hi hin hip
        rw [swapS_get hpl hjl, swapS_get hpl hjl]
        by_cases hij : i = j
        · subst hij
          rw [if_pos rfl, if_neg (by omega), if_pos rfl]
          exact bef_asymm hb
        · rw [if_neg hij, if_neg hip]
          by_cases hpj : (i - 1) / 2 = j
          · rw [if_pos hpj]
            exact h2 i hi hin hpj (by omega)
          · rw [if_neg hpj]
            by_cases hpp : (i - 1) / 2 = (j - 1) / 2
            · rw [if_pos hpp]
              have h3 := h1 i hi hin hij
              rw [hpp] at h3
              exact fun hc => h3 (bef_trans hc hb)
            · rw [if_neg hpp]
              exact h1 i hi hin hij
      · intro i hi hin hip hp0
        rw [swapS_get hpl hjl, swapS_get hpl hjl]
        rw [if_neg (show ¬ ((j - 1) / 2 - 1) / 2 = j by omega), if_neg (show ¬ ((j - 1) / 2 - 1) / 2 = (j - 1) / 2 by omega)]
        have h4 := h1 ((j - 1) / 2) hp0 (by omega) (by omega)
        by_cases hij : i = j
        · rw [if_pos hij]; exact h4
        · rw [if_neg hij, if_neg (by omega)]
          have h3 := h1 i hi hin hij
          rw [hip] at h3
          exact bef_ntrans h3 h4
theorem upF_perm : ∀ (f : Nat) (l : List W) (j : Nat), j < l.length → (upF f l j).Perm l
  | 0, _, _, _ => .refl _
  | f + 1, l, j, hj => by
    rw [upF]
    split
    · exact .refl _
    · exact (upF_perm f _ _ (by rw [swapS_len]; omega)).trans (swapS_perm (by omega) hj)
theorem upS_perm {l : List W} {j : Nat} (hj : j < l.length) : (upS l j).Perm l := upF_perm _ _ _ hj
theorem getD_app_left {l : List W} {x : W} {i : Nat} (h : i < l.length) : (l ++ [x]).getD i w0 = l.getD i w0 := by
  rw [List.getD_eq_getElem?_getD, List.getD_eq_getElem?_getD, List.getElem?_append_left h]
theorem push_hp {l : List W} (h : Hp l l.length) (x : W) : Hp (upS (l ++ [x]) l.length) (l.length + 1) := by
  refine upF_hp _ _ _ _ (by omega) (by omega) (by simp) ?_ ?_
  · intro i hi hin hil
    rw [getD_app_left (by omega), getD_app_left (by omega)]
    exact h i hi (by omega)
  · intro i hi hin hip
    omega
theorem child_least {l : List W} {i n j : Nat} (hj : j < n) (h0 : 0 < j) (hp : (j - 1) / 2 = i) : ¬ bef (l.getD j w0) (l.getD (child l i n) w0) := by
  unfold child
  have : j = 2 * i + 1 ∨ j = 2 * i + 1 + 1 := by omega
  split
  · next h =>
    rcases this with rfl | rfl
    · exact bef_asymm h.2
    · exact bef_irrefl _
  · next h =>
    rcases this with rfl | rfl
    · exact bef_irrefl _
    · exact fun hc => h ⟨hj, hc⟩
theorem child_par {l : List W} {i n : Nat} : (child l i n - 1) / 2 = i := by unfold child; split <;> omega
theorem downF_hp : ∀ (f : Nat) (l : List W) (i n : Nat), n - i < f → i < n → n ≤ l.length → (∀ j, 0 < j → j < n → (j - 1) / 2 ≠ i → ¬ bef (l.getD j w0) (l.getD ((j - 1) / 2) w0)) →
    (∀ j, 0 < j → j < n → (j - 1) / 2 = i → 0 < i → ¬ bef (l.getD j w0) (l.getD ((i - 1) / 2) w0)) → Hp (downF f l i n) n
  | 0, _, _, _, h, _, _, _, _ => absurd h (Nat.not_lt_zero _)
  | f + 1, l, i, n, hf, hin, hn, h1, h2 => by
    rw [downF]
    split
    · next h =>
      intro j hj hjn
      by_cases hp : (j - 1) / 2 = i
      · rw [hp]
        rcases h with h | h
        · omega
        · exact bef_ntrans (child_least hjn hj hp) h
      · exact h1 j hj hjn hp
    · next h =>
      have hlt : 2 * i + 1 < n := Classical.byContradiction fun hc => h (.inl (by omega))
      have hb : bef (l.getD (child l i n) w0) (l.getD i w0) := Classical.byContradiction fun hc => h (.inr hc)
      have h3 := child_gt l i n
      have h4 := child_lt (l := l) hlt
      have h5 := child_par (l := l) (i := i) (n := n)
      have hl := fun (j : Nat) (a : j < n) (b : 0 < j) (c : (j - 1) / 2 = i) => child_least (l := l) a b c
      generalize child l i n = c at hb h3 h4 h5 hl
      have hil : i < l.length := by omega
      have hcl : c < l.length := by omega
      refine downF_hp f _ c n (by omega) h4 (by rw [swapS_len]; exact hn) ?_ ?_
      · intro j hj hjn hjc
        rw [swapS_get hil hcl, swapS_get hil hcl, if_neg hjc]
        by_cases hp : (j - 1) / 2 = i
        · rw [if_pos hp]
          by_cases hc : j = c
          · rw [if_pos hc]; exact bef_asymm hb
          · rw [if_neg hc, if_neg (by omega)]
            exact hl j hjn hj hp
        · rw [if_neg hp]
          by_cases hc : j = c
          · subst hc; exact absurd h5 hp
          · rw [if_neg hc]
            by_cases hji : j = i
            · subst hji
              rw [if_pos rfl]
              exact h2 c (by omega) h4 h5 hj
            · rw [if_neg hji]
              exact h1 j hj hjn hp
      · intro j hj hjn hjc hc0
        rw [swapS_get hil hcl, swapS_get hil hcl, if_neg (show ¬ j = c by omega), if_neg (show ¬ j = i by omega), h5, if_neg (show ¬ i = c by omega), if_pos rfl]
        have := h1 j hj hjn (by omega)
        rw [hjc] at this
        exact this
theorem downF_perm : ∀ (f : Nat) (l : List W) (i n : Nat), n ≤ l.length → (downF f l i n).Perm l
  | 0, _, _, _, _ => .refl _
  | f + 1, l, i, n, hn => by
    rw [downF]
    split
    · exact .refl _
    · next h =>
      have hlt : 2 * i + 1 < n := Classical.byContradiction fun hc => h (.inl (by omega))
      have h3 := child_gt l i n
      have h4 := child_lt (l := l) hlt
      exact (downF_perm f _ _ n (by rw [swapS_len]; exact hn)).trans (swapS_perm (by omega) (by omega))
theorem downF_get : ∀ (f : Nat) (l : List W) (i n j : Nat), n ≤ l.length → n ≤ j → (downF f l i n).getD j w0 = l.getD j w0
  | 0, _, _, _, _, _, _ => rfl
  | f + 1, l, i, n, j, hn, hj => by
    rw [downF]
    split
    · rfl
    · next h =>
      have hlt : 2 * i + 1 < n := Classical.byContradiction fun hc => h (.inl (by omega))
      have h3 := child_gt l i n
      have h4 := child_lt (l := l) hlt
      rw [downF_get f _ _ n j (by rw [swapS_len]; exact hn) hj, swapS_get (by omega) (by omega), if_neg (by omega), if_neg (by omega)]
theorem getD_take {l : List W} {n j : Nat} (h : j < n) : (l.take n).getD j w0 = l.getD j w0 := by
  rw [List.getD_eq_getElem?_getD, List.getD_eq_getElem?_getD, List.getElem?_take, if_pos h]
/-- what is taken is the first, the least; the others are the rest, in a heap -/
theorem pop_spec {l : List W} (hp : Hp l l.length) (h0 : 0 < l.length) :
    (downS (swapS l 0 (l.length - 1)) 0 (l.length - 1)).getD (l.length - 1) w0 = l.getD 0 w0 ∧
    (((downS (swapS l 0 (l.length - 1)) 0 (l.length - 1)).take (l.length - 1)) ++ [l.getD 0 w0]).Perm l ∧
    Hp ((downS (swapS l 0 (l.length - 1)) 0 (l.length - 1)).take (l.length - 1)) (l.length - 1) := by
  obtain ⟨n, hn⟩ : ∃ n, l.length = n + 1 := ⟨l.length - 1, by omega⟩
  rw [hn, Nat.add_sub_cancel]
  have hsl : (swapS l 0 n).length = n + 1 := by rw [swapS_len, hn]
  have hg : (downS (swapS l 0 n) 0 n).getD n w0 = l.getD 0 w0 := by
    rw [downS, downF_get _ _ _ _ _ (by omega) (Nat.le_refl _), swapS_get (by omega) (by omega), if_pos rfl]
  have hpm : (downS (swapS l 0 n) 0 n).Perm l := (downF_perm _ _ _ _ (by omega)).trans (swapS_perm (by omega) (by omega))
  have hdl : (downS (swapS l 0 n) 0 n).length = n + 1 := by rw [downS_len, hsl]
  have hsp : (downS (swapS l 0 n) 0 n).take n ++ [l.getD 0 w0] = downS (swapS l 0 n) 0 n := by
    rw [← hg]
    generalize downS (swapS l 0 n) 0 n = d at hdl
    conv => rhs; rw [← List.take_append_drop n d, List.drop_eq_getElem_cons (by omega), List.drop_eq_nil_of_le (show d.length ≤ n + 1 by omega)]
    rw [List.getD_eq_getElem?_getD, List.getElem?_eq_getElem (by omega)]
    rfl
  refine ⟨hg, by rw [hsp]; exact hpm, ?_⟩
  intro j hj hjn
  rw [getD_take hjn, getD_take (by omega)]
  rcases Nat.eq_zero_or_pos n with h | h
  · omega
  · refine downF_hp _ _ 0 n (by omega) h (by omega) ?_ (fun _ _ _ _ h => absurd h (Nat.lt_irrefl _)) j hj hjn
    intro i hi hin hip
    rw [swapS_get (by omega) (by omega), swapS_get (by omega) (by omega), if_neg (by omega), if_neg (by omega), if_neg (by omega), if_neg hip]
    exact hp i hi (by omega)
end Go.Proofs.Ytfddplpljjlgiaa.Bs

namespace Go.Proofs.Ytfddplpljjlgiaa.Bs
open Go Fw Go.Proofs.Ytfddplpljjlgiaa
set_option linter.unusedSimpArgs false
set_option linter.unusedVariables false
theorem wrows_up {l : List W} {x : W} : ∀ y, y ∈ wrows (upS (l ++ [x]) l.length) → y ∈ wrows l ∨ y ∈ [(x.dv, 1, ints .u8 x.data)] := fun y hy => by
  obtain ⟨z, hz, rfl⟩ := List.mem_map.1 hy
  rcases List.mem_append.1 ((upS_perm (by simp)).mem_iff.1 hz) with h | h
  · exact .inl (wrows_mem h)
  · rw [List.mem_singleton.1 h]; exact .inr (List.mem_singleton.2 rfl)
theorem wrows_sub {l l' : List W} (h : ∀ x, x ∈ l → x ∈ l') : ∀ y, y ∈ wrows l → y ∈ wrows l' := fun y hy => by
  obtain ⟨z, hz, rfl⟩ := List.mem_map.1 hy
  exact wrows_mem (h z hz)
def idOf (ids : List Int) (k : Nat) : Int := iand .i64 (ids.getD k 0) 2047
theorem idOf_range (ids : List Int) (k : Nat) : 0 ≤ idOf ids k ∧ idOf ids k ≤ 2047 := iand_mask _ 2047 (by decide)
/-- the k-th that was sent -/
def Snt (ids : List Int) (n : Nat) (x : W) : Prop := ∃ k, k < n ∧ x.came = ((k + 1 : Nat) : Int) ∧ x.data = [(k : Int)] ∧ x.id = idOf ids k
theorem Snt.more {ids : List Int} {n m : Nat} {x : W} (h : Snt ids n x) (hm : n ≤ m) : Snt ids m x := by
  obtain ⟨k, h1, h2⟩ := h
  exact ⟨k, by omega, h2⟩
structure Q1 (ids : List Int) (n : Nat) (l : List W) : Prop where
  hp : Hp l l.length
  snt : ∀ x, x ∈ l → Snt ids n x
  apart : l.Pairwise fun x y => x.came ≠ y.came
  one : ∀ x, x ∈ l → x.dv.oneCell' = true
theorem pw_perm {l l' : List W} (h : l.Perm l') (hl : l.Pairwise fun x y => x.came ≠ y.came) : l'.Pairwise fun x y => x.came ≠ y.came :=
  h.pairwise hl (fun h => Ne.symm h)
theorem Q1.nil (ids : List Int) : Q1 ids 0 [] := ⟨(fun j _ hj => absurd hj (Nat.not_lt_zero _)), (fun x hx => by cases hx), List.Pairwise.nil, (fun x hx => by cases hx)⟩
theorem Q1.push {ids : List Int} {n : Nat} {l : List W} (h : Q1 ids n l) {v : Value} (hv : v.oneCell' = true) : Q1 ids (n + 1) (upS (l ++ [⟨idOf ids n, v, [(n : Int)], ((n + 1 : Nat) : Int)⟩]) l.length) := by
  have hpm := upS_perm (l := l ++ [(⟨idOf ids n, v, [(n : Int)], ((n + 1 : Nat) : Int)⟩ : W)]) (j := l.length) (by simp)
  refine ⟨?_, ?_, ?_, ?_⟩
  · rw [upS_len, List.length_append]
    exact push_hp h.hp _
  · intro x hx
    rcases List.mem_append.1 (hpm.mem_iff.1 hx) with hx | hx
    · exact (h.snt x hx).more (Nat.le_succ _)
    · rw [List.mem_singleton.1 hx]
      exact ⟨n, Nat.lt_succ_self _, rfl, rfl, rfl⟩
  · refine pw_perm hpm.symm ?_
    rw [List.pairwise_append]
    refine ⟨h.apart, List.pairwise_singleton _ _, fun x hx y hy => ?_⟩
    rw [List.mem_singleton.1 hy]
    obtain ⟨k, hk, hc, _⟩ := h.snt x hx
    rw [hc]
    simp only [ne_eq, Int.natCast_inj]
    omega
  · intro x hx
    rcases List.mem_append.1 (hpm.mem_iff.1 hx) with hx | hx
    · exact h.one x hx
    · rw [List.mem_singleton.1 hx]; exact hv
def rest (l : List W) : List W := (downS (swapS l 0 (l.length - 1)) 0 (l.length - 1)).take (l.length - 1)
def first (l : List W) : W := l.getD 0 w0
theorem rest_len {l : List W} : (rest l).length = l.length - 1 := by
  rw [rest, List.length_take, downS_len, swapS_len]; omega
theorem rest_perm {l : List W} (hp : Hp l l.length) (h0 : 0 < l.length) : (rest l ++ [first l]).Perm l := (pop_spec hp h0).2.1
theorem rest_mem {l : List W} (hp : Hp l l.length) (h0 : 0 < l.length) {x : W} (hx : x ∈ rest l) : x ∈ l := (rest_perm hp h0).mem_iff.1 (List.mem_append_left _ hx)
theorem first_mem {l : List W} (h0 : 0 < l.length) : first l ∈ l := getD_mem h0
theorem Q1.pop {ids : List Int} {n : Nat} {l : List W} (h : Q1 ids n l) (h0 : 0 < l.length) : Q1 ids n (rest l) ∧ ∀ x, x ∈ rest l → bef (first l) x := by
  have hpm := rest_perm h.hp h0
  have hpw := pw_perm hpm.symm h.apart
  rw [List.pairwise_append] at hpw
  refine ⟨⟨?_, fun x hx => h.snt x (rest_mem h.hp h0 hx), hpw.1, fun x hx => h.one x (rest_mem h.hp h0 hx)⟩, fun x hx => ?_⟩
  · rw [rest_len]; exact (pop_spec h.hp h0).2.2
  · have h1 := hpw.2.2 x hx (first l) (List.mem_singleton.2 rfl)
    have hm := rest_mem h.hp h0 hx
    obtain ⟨j, hj, rfl⟩ := List.mem_iff_getElem.1 hm
    have h2 := hp_min h.hp j hj
    rw [List.getD_eq_getElem?_getD, List.getElem?_eq_getElem hj] at h2
    have h3 : ¬ bef l[j] (first l) := h2
    generalize l[j] = x at *
    generalize first l = y at *
    unfold bef at *
    omega
/-- none that waits is among those seen, all come behind the last -/
def Q2 (ks : List Int) (last place : Int) (l : List W) : Prop := ∀ x, x ∈ l → (∀ k, x.data = [k] → k ∉ ks) ∧ (last < x.id ∨ (last = x.id ∧ place + 1 < x.came))
theorem Q2.start {ids : List Int} {n : Nat} {l : List W} (h : Q1 ids n l) : Q2 [] (-1) (-1) l := fun x hx => by
  obtain ⟨k, _, _, _, hi⟩ := h.snt x hx
  have := idOf_range ids k
  exact ⟨(fun _ _ h => by cases h), .inl (by omega)⟩
theorem Q2.pop {ids : List Int} {n : Nat} {l : List W} {ks : List Int} {last place : Int} {k : Nat} (h : Q1 ids n l) (h0 : 0 < l.length) (h2 : Q2 ks last place l) (hc : (first l).came = ((k + 1 : Nat) : Int)) : Q2 (ks ++ [(k : Int)]) (first l).id (k : Int) (rest l) := fun x hx => by
  have hb := (h.pop h0).2 x hx
  have hm := rest_mem h.hp h0 hx
  refine ⟨fun k' hk hmem => ?_, ?_⟩
  · rcases List.mem_append.1 hmem with hmem | hmem
    · exact (h2 x hm).1 k' hk hmem
    · have hk' := List.mem_singleton.1 hmem
      subst hk'
      obtain ⟨k2, _, hc2, hd2, hi2⟩ := h.snt x hm
      obtain ⟨k3, _, hc3, _, hi3⟩ := h.snt _ (first_mem h0)
      rw [hd2] at hk
      have e1 : k2 = k := by
        have h9 : (k2 : Int) = (k : Int) := by simpa using hk
        omega
      have e2 : k3 = k := by rw [hc3] at hc; omega
      subst e1; subst e2
      unfold bef at hb
      rw [hi2, hi3, hc2, hc3] at hb
      omega
  · unfold bef at hb
    rw [hc] at hb
    omega
end Go.Proofs.Ytfddplpljjlgiaa.Bs

namespace Go.Proofs.Ytfddplpljjlgiaa.Fw
open Go Go.RowKit Go.Proofs.Ytfddplpljjlgiaa
set_option linter.unusedSimpArgs false
set_option linter.unusedVariables false
def ments (ks : List Int) : List MapEntry := ks.zipIdx.map fun x => { key := .int .u8 x.1, val := .bool true, born := x.2 }
def mobj (ks : List Int) : Obj := .map (ments ks).toArray ks.length
theorem ments_snoc (ks : List Int) (d : Int) : ments (ks ++ [d]) = ments ks ++ [{ key := .int .u8 d, val := .bool true, born := ks.length }] := by
  simp [ments, List.zipIdx_append]
theorem ments_key {ks : List Int} {e : MapEntry} (h : e ∈ ments ks) : ∃ k, k ∈ ks ∧ e.key = .int .u8 k := by
  obtain ⟨x, hx, rfl⟩ := List.mem_map.1 h
  exact ⟨x.1, (List.mem_zipIdx' hx).2 ▸ List.getElem_mem _, rfl⟩
theorem findNow_none {d : Int} : ∀ (es : List MapEntry) (i : Nat), (∀ e, e ∈ es → ∃ k, k ≠ d ∧ e.key = .int .u8 k) → Instr.findNow (.int .u8) (.int .u8 d) es i = some none
  | [], _, _ => rfl
  | e :: es, i, h => by
    obtain ⟨k, hk, he⟩ := h e (List.mem_cons_self ..)
    have h2 : (d == k) = false := beq_false_of_ne (fun h => hk h.symm)
    rw [Instr.findNow, he]
    simp only [Instr.sameNow, if_true, h2]
    exact findNow_none es (i + 1) (fun e he => h e (List.mem_cons_of_mem _ he))
section
variable {P : Program} {Q : Exit → Act → World → Prop} {ops : Array Oper} {rest : List Oper} {E : Env} {L : List (Nat × Value)} {H : List (Nat × Ent)} {F : List (Nat × FE)}
variable {ty : TypeId} {pos : String} {af : Array Edge} {gd : Option (Nat × Bool)}
theorem run_checkKey {K : TypeId} {k : IntKind} (hK : P.underlying K = some (.int k)) (b : Bool) (v : Value) (w : World) : (Instr.checkKey b 10000 K v).run P w = .ok () w := by
  have : ∀ n, (Instr.checkKey b (n + 1) K v).run P w = .ok () w := fun n => by
    rw [Instr.checkKey]
    simp only [Sem.run_bind, run_und hK, Result.andThen_ok]
    cases v <;> rfl
  exact this 9999
theorem run_findKey {K : TypeId} {ks : List Int} {d : Int} (hK : P.underlying K = some (.int .u8)) (hd : d ∉ ks) (w : World) : (Instr.findKey K (.int .u8 d) (ments ks)).run P w = .ok none w := by
  have h := findNow_none (d := d) (ments ks) 0 (fun e he => by
    obtain ⟨k, hk, h⟩ := ments_key he
    exact ⟨k, fun hc => hd (hc ▸ hk), h⟩)
  rw [Instr.findKey]
  simp only [Sem.run_bind, run_und hK, Result.andThen_ok, h]
  rfl
/-- a slice of one cell -/
theorem st_bsu1 {dst T e bytes : Nat} {x : Operand} {d : TypeDesc} {z v : Value} (h : Nat) (hT : P.underlying T = some (.slice e)) (ht : Ty P e d 1 bytes z) (hz : z.cells.size = 1)
    (hx : ev L x = some v) (hv : v.cells = #[v]) (hg : wants ops L gd = some true) (hn : Nat.ble (dst + 1) E.n = true)
    (k : ∀ b, At (wpList P ops Q rest) E ((dst, .slice (some ⟨b, 0, none⟩) 1 1) :: L) ((h, .own (.slice (some ⟨b, 0, none⟩) 1 1) e 1 [v]) :: H) F) :
    At (wpList P ops Q (⟨some dst, .buildSlice T 1 #[(0, x)], ty, pos, af, gd⟩ :: rest)) E L H F := by
  refine st_buildSlice (vs := [v]) (cells := [v]) h hT ht (by simp [evs, hx]) (by omega) ?_ rfl hg hn k
  have key : ∀ A : Array Value, A.size = 1 → Instr.fill (fun i => some (i * 1, 1)) A [(0, v)] = some [v].toArray := fun A hA => by
    have h1 := fill_put (pl := fun i => some (i * 1, 1)) (i := 0) (off := 0) (n := 1) (z := A.toList) (vs := [v]) (v := v) (rest := []) (by simp) (by rw [hv]) rfl (by simp [hA])
    rw [Array.toArray_toList, fill_nil, wr_all (by simp [hA])] at h1
    exact h1
  refine key _ ?_
  have : ¬ 1 * 1 = 0 := by omega
  simp
theorem st_makeMap {dst T : Nat} (h : Nat) (hg : wants ops L gd = some true) (hn : Nat.ble (dst + 1) E.n = true)
    (k : ∀ b, At (wpList P ops Q rest) E ((dst, .map (some b)) :: L) ((h, .blk b (mobj [])) :: H) F) : At (wpList P ops Q (⟨some dst, .makeMap T none, ty, pos, af, gd⟩ :: rest)) E L H F := by
  refine st_gives hg rfl hn fun a w fa sw => ⟨.map (some w.heap.size), w.alloc (mobj []), [], [(h, .blk w.heap.size (mobj []))], ?_, ?_, nil_all, k _⟩
  · simp [execOp, run_makeMap]; rfl
  · exact gives_alloc w _ _ _ (heap_alloc_new _ _) (by simp [Ent.ids])
theorem ev_lookup {dst : Option Tmp} {T K e h b bytes sz : Nat} {x y : Operand} {d : Int} {z : Value} {td : TypeDesc} {ks : List Int} (hT : P.underlying T = some (.map K e)) (hK : P.underlying K = some (.int .u8)) (ht : Ty P e td sz bytes z)
    (hx : ev L x = some (.map (some b))) (hy : ev L y = some (.int .u8 d)) (hh : lk H h = some (.blk b (mobj ks))) (hd : d ∉ ks) : Ev P ⟨dst, .lookup T x y false, ty, pos, af, gd⟩ E L H F z :=
  fun a w fa sw => by
    have hb : w.heap[b]? = some (.map (ments ks).toArray ks.length) := sw.blk_eq hh
    simp only [execOp, fa.ev hx, fa.ev hy, Instr.lookup, Sem.run_bind, run_und hT, Result.andThen_ok, MapKept.run_getObj_map hb, Sem.run_pure, run_checkKey hK, run_findKey hK hd, ht.run_zero]
    rfl
theorem st_mapUpdate {T K e b : Nat} {x y z : Operand} {d : Int} {ks : List Int} (h : Nat) (hT : P.underlying T = some (.map K e)) (hK : P.underlying K = some (.int .u8))
    (hx : ev L x = some (.map (some b))) (hy : ev L y = some (.int .u8 d)) (hz : ev L z = some (.bool true)) (hh : lk H h = some (.blk b (mobj ks))) (hd : d ∉ ks) (hg : wants ops L gd = some true)
    (k : At (wpList P ops Q rest) E L ((h, .blk b (mobj (ks ++ [d]))) :: H) F) : At (wpList P ops Q (⟨none, .mapUpdate T x y z, ty, pos, af, gd⟩ :: rest)) E L H F := by
  refine st_run hg fun a w fa sw => ?_
  have hb : w.heap[b]? = some (.map (ments ks).toArray ks.length) := sw.blk_eq hh
  have hlt := (Array.getElem?_eq_some_iff.1 hb).1
  have e1 : Obj.map ((ments ks).toArray.push { key := .int .u8 d, val := .bool true, born := ks.length }) (ks.length + 1) = mobj (ks ++ [d]) := by
    rw [mobj, ments_snoc]; simp
  have e : (execOp a.eval ⟨none, .mapUpdate T x y z, ty, pos, af, gd⟩).run P w = .ok .skip (setBlk w b (mobj (ks ++ [d]))) := by
    rw [← e1]
    simp only [execOp, fa.ev hx, fa.ev hy, fa.ev hz, Instr.mapUpdate, Sem.run_bind, run_und hT, Result.andThen_ok, MapKept.run_getObj_map hb, Sem.run_pure, run_checkKey hK, run_findKey hK hd, MapKept.run_setObj_map _ hb]
    rfl
  unfold Oper.wp
  rw [e]
  exact k a _ fa (sw.step (gives_setBlk hlt h (.blk b _) (heap_setBlk hlt) rfl) (fun b' hb' => ⟨h, _, hh, by simpa [Ent.ids] using hb', by simp [lk_cons_same]⟩))
end
end Go.Proofs.Ytfddplpljjlgiaa.Fw

namespace Go.Proofs.Ytfddplpljjlgiaa
open Go Go.RowKit Fw
open Bs
set_option linter.unusedVariables false
set_option linter.unusedSimpArgs false
set_option maxRecDepth 20000 in
set_option maxHeartbeats 1000000 in
theorem next_emp (b : Nat) (qv c : Value) (w : World) (h : Lies w b 0 [qv, c]) (h' : Rd w qv 3 (Bs.wflat [])) : Calls Try.prog 9 #[.pointer (some ⟨b, 0, none⟩)] w (PostV w (.tuple #[.agg (List.toArray [.int .i64 0, .slice none 0 0]), .bool false])) := by
  refine calls_at (vs := [.pointer (some ⟨b, 0, none⟩)]) (X := []) (H := []) (F := [(21, .mem b 0 [qv, c]), (20, .sl (qv) 3 (Bs.wflat ([])))]) 22 Try.func9 rfl rfl rfl ((Sat.rd0 20 h').read (f := .mem b 0 [qv, c]) 21 h off_nil) ?_
  refine cd_seq ?_
  refine cd_region ?_
  refine st_alloc (h := 2) ty29 rfl rfl rfl (fun b2 => ?_)
  refine st (ev_assign rfl) rfl rfl rfl ?_
  refine op_nil ?_
  refine ax_then ?_
  refine At.regs (L' := [(0, _), (2, _), (3, _)]) (.cons rfl (.cons rfl (.cons rfl (.nil _)))) ?_
  refine cd_seq ?_
  refine cd_seq ?_
  refine cd_region ?_
  refine st (ev_move rfl) rfl rfl rfl ?_
  refine st_callv has10 rfl (fun w1 sw => blen_any b qv c [] w1 (sw.mem_lies (h := 21) rfl) (sw.sl_rd (h := 20) rfl)) rfl rfl ?_
  refine st (ev_eql rfl rfl) rfl rfl rfl ?_
  refine op_nil ?_
  refine ax_then ?_
  refine At.regs (L' := [(0, _), (2, _), (3, _), (8, _)]) (.cons rfl (.cons rfl (.cons rfl (.cons rfl (.nil _))))) ?_
  refine cd_if_t rfl (rfl) ?_
  refine cd_seq ?_
  refine cd_region ?_
  refine st (ev_build_struct ty29 rfl pl29 rfl rfl) rfl rfl rfl ?_
  refine st_store_all 2 ty29 rfl rfl rfl rfl (by first | omega | (simp only [List.length_append, List.length_cons, List.length_nil, List.length_set, List.length_replicate, List.length_take, List.length_drop, ints_length, wr_length] <;> omega) | rfl) (by first | (intro u hu; simp at hu; rcases hu with rfl | rfl <;> rfl) | (simp [Value.oneCell'])) (by first | omega | (simp only [List.length_append, List.length_cons, List.length_nil, List.length_set, List.length_replicate, List.length_take, List.length_drop, ints_length, wr_length] <;> omega) | rfl) rfl ?_
  refine st (ev_assign rfl) rfl rfl rfl ?_
  refine op_nil ?_
  refine ax_then ?_
  refine At.regs (L' := [(0, _), (2, _), (3, _)]) (.cons rfl (.cons rfl (.cons rfl (.nil _)))) ?_
  refine cd_ret ?_
  refine ax_then_ret ?_
  refine rt_cell_tmp (h0 := 2) (.inl rfl) Try.results9 ty29 rfl rfl rfl rfl rfl ?_
  exact fun w1 sw => ⟨rfl, sw.gives (.nil _)⟩
theorem next_rest (b : Nat) (qv : Value) (l : List Bs.W) (came : Nat) (w : World) (hp : Bs.Hp l l.length) (hpos : 0 < l.length) (hll : l.length ≤ 100000) (ho : ∀ x, x ∈ l → x.dv.oneCell' = true) (hb : w.heap[b]? = some (.cells (List.toArray [qv, .int .i64 (came : Nat)]) 52)) (hv : Own w qv 57 3 (Bs.wflat l)) (hbv : b ∉ blkOf qv) :
    Calls Try.prog 9 #[.pointer (some ⟨b, 0, none⟩)] w (Post (ι := Value) w (b :: blkOf qv) (fun _ => True) (fun _ => .tuple #[.agg (List.toArray [.int .i64 (Bs.first l).id, (Bs.first l).dv]), .bool true]) (fun x => [(0, .blk (b) (.cells ([x, .int .i64 ((came : Nat))]).toArray 52)), (1, .own (x) 57 3 (Bs.wflat (Bs.rest l)))])) := by
  refine (next_ok b qv l came w hpos hll ho hb hv hbv).mono ?_
  rintro e w' ⟨_, _, rfl, g⟩
  rw [(Bs.pop_spec hp hpos).1]
  exact ⟨_, trivial, rfl, g⟩
set_option maxRecDepth 20000 in
set_option maxHeartbeats 8000000 in
theorem busOrder_any (v : Value) (ids : List Int) (w : World) (hlen : ids.length ≤ 140737488351232) (hd : Rd w v 1 (ints .i64 ids)) : Calls Try.prog 3 #[v] w (PostV w (.bool true)) := by
  refine calls_at (vs := [v]) (X := []) (H := []) (F := [(22, .sl v 1 (ints .i64 ids))]) 128 Try.func3 rfl rfl rfl (Sat.rd0 22 hd) ?_
  refine cd_seq ?_
  refine cd_region ?_
  refine st (ev_assign rfl) rfl rfl rfl ?_
  refine op_nil ?_
  refine ax_then ?_
  refine At.regs (L' := [(0, _), (2, _)]) (.cons rfl (.cons rfl (.nil _))) ?_
  refine cd_seq ?_
  refine cd_seq ?_
  refine cd_region ?_
  refine st (ev_move rfl) rfl rfl rfl ?_
  refine st (ev_len_rdi (h := 22) Try.underlying22 rfl rfl) rfl rfl rfl ?_
  refine st (ev_gtr rfl rfl) rfl rfl rfl ?_
  refine op_nil ?_
  refine ax_then ?_
  refine At.regs (L' := [(0, _), (2, _), (15, _)]) (.cons rfl (.cons rfl (.cons rfl (.nil _)))) ?_
  refine cd_if rfl (fun hc15 => ?_) (fun hc15 => ?_)
  ·
    refine cd_seq ?_
    refine cd_region ?_
    refine st (ev_assign rfl) rfl rfl rfl ?_
    refine op_nil ?_
    refine ax_then ?_
    refine At.regs (L' := [(0, _), (2, _)]) (.cons rfl (.cons rfl (.nil _))) ?_
    refine cd_ret ?_
    refine ax_then_ret ?_
    refine rt_tmp (.inl rfl) Try.results3 rfl ?_
    exact fun w1 sw => ⟨rfl, sw.gives (.nil _)⟩
  ·
    refine cd_skip ?_
    refine ax_then ?_
    refine At.regs (L' := [(0, _), (2, _)]) (.cons rfl (.cons rfl (.nil _))) ?_
    refine cd_seq ?_
    refine cd_region ?_
    refine st_call has7 rfl (fun w1 sw => new_any w1) nil_all rfl rfl (fun b16 _ => ?_)
    refine st (ev_assign rfl) rfl rfl rfl ?_
    refine op_nil ?_
    refine ax_then ?_
    refine At.regs (L' := [(0, _), (2, _), (3, _)]) (.cons rfl (.cons rfl (.cons rfl (.nil _)))) ?_
    refine cd_seq ?_
    refine cd_seq ?_
    refine cd_region ?_
    refine st (ev_move rfl) rfl rfl rfl ?_
    refine st (ev_eql_ptr_nil Try.underlying23 rfl rfl) rfl rfl rfl ?_
    refine op_nil ?_
    refine ax_then ?_
    refine At.regs (L' := [(0, _), (2, _), (3, _), (18, _)]) (.cons rfl (.cons rfl (.cons rfl (.cons rfl (.nil _))))) ?_
    refine cd_false rfl ?_
    refine cd_skip ?_
    refine ax_then ?_
    refine At.regs (L' := [(0, _), (2, _), (3, _)]) (.cons rfl (.cons rfl (.cons rfl (.nil _)))) ?_
    refine cd_seq ?_
    refine cd_seq ?_
    refine cd_region ?_
    refine st (ev_assign rfl) rfl rfl rfl ?_
    refine op_nil ?_
    refine ax_then ?_
    refine At.regs (L' := [(0, _), (2, _), (3, _), (4, _)]) (.cons rfl (.cons rfl (.cons rfl (.cons rfl (.nil _))))) ?_
    refine cd_block ?_
    refine at_rows_nil 41 ?_
    refine cd_loop (ι := Nat × Value × List Bs.W) (fun x => x.1 ≤ ids.length ∧ x.2.2.length = x.1 ∧ Bs.Q1 ids x.1 x.2.2) (fun x => ids.length - x.1)
        (fun x => [(0, v), (3, .pointer (some ⟨b16, 0, none⟩)), (4, .int .i64 (x.1 : Nat))])
        (fun x => [(0, .blk (b16) (.cells ([x.2.1, .int .i64 (x.1 : Nat)]).toArray 52)), (1, .own (x.2.1) 57 3 (Bs.wflat (x.2.2)))])
        (fun x => [(22, .sl v 1 (ints .i64 ids)), (41, .rows (Bs.wrows x.2.2))])
        (0, .slice none 0 0, []) (⟨Nat.zero_le _, rfl, Bs.Q1.nil ids⟩) (.cons rfl (.cons rfl (.cons rfl (.nil _)))) (.cons rfl (.cons rfl (.nil _))) (.cons rfl (.cons rfl (.nil _))) (fun x hi => ?_)
    obtain ⟨i, q, l⟩ := x
    dsimp only at hi ⊢
    obtain ⟨hi1, hll, hq⟩ := hi
    refine cd_seq ?_
    refine cd_seq ?_
    refine cd_region ?_
    refine st (ev_move rfl) rfl rfl rfl ?_
    refine st (ev_move rfl) rfl rfl rfl ?_
    refine st (ev_len_rdi (h := 22) Try.underlying22 rfl rfl) rfl rfl rfl ?_
    refine st (ev_lss rfl rfl) rfl rfl rfl ?_
    refine op_nil ?_
    refine ax_then ?_
    refine At.regs (L' := [(0, _), (3, _), (4, _), (19, _), (20, _), (21, _), (22, _)]) (.cons rfl (.cons rfl (.cons rfl (.cons rfl (.cons rfl (.cons rfl (.cons rfl (.nil _)))))))) ?_
    refine cd_if rfl (fun hc22 => ?_) (fun hc22 => ?_)
    ·
      refine cd_skip ?_
      refine ax_then ?_
      refine At.regs (L' := [(0, _), (3, _), (4, _), (19, _), (20, _), (21, _), (22, _)]) (.cons rfl (.cons rfl (.cons rfl (.cons rfl (.cons rfl (.cons rfl (.cons rfl (.nil _)))))))) ?_
      refine cd_seq ?_
      refine cd_block ?_
      refine cd_seq ?_
      refine cd_region ?_
      refine st (ev_move rfl) rfl rfl rfl ?_
      refine st (ev_move rfl) rfl rfl rfl ?_
      refine st (ev_move rfl) rfl rfl rfl ?_
      refine st (ev_indexAddr_rdi (h := 22) Try.underlying22 ty3 rfl rfl rfl (by omega) (by first | omega | (simp only [List.length_append, List.length_cons, List.length_nil, List.length_set, List.length_replicate, List.length_take, List.length_drop, ints_length, wr_length] <;> omega))) rfl rfl rfl ?_
      refine st (ld_rd1 (h := 22) ty3 rfl rfl rfl (ints_get _ _ _ (by first | omega | (simp only [List.length_append, List.length_cons, List.length_nil, List.length_set, List.length_replicate, List.length_take, List.length_drop, ints_length, wr_length] <;> omega) | rfl))) rfl rfl rfl ?_
      refine at_eq (i := 29) (v' := .int .i64 (ids.getD i 0)) rfl (by rw [Int.toNat_natCast]) ?_
      refine st (ev_and rfl rfl) rfl rfl rfl ?_
      refine at_eq (i := 30) (v' := .int .i64 (Bs.idOf ids i)) rfl rfl ?_
      refine st (ev_move rfl) rfl rfl rfl ?_
      refine st (ev_conv Try.underlying3 Try.underlying5 rfl) rfl rfl rfl ?_
      refine at_eq (i := 32) (v' := .int .u8 (i : Int)) rfl (by rw [show IntKind.u8.wrap (i : Int) = (i : Int) by simp [IntKind.wrap, IntKind.bits, IntKind.signed]; omega]) ?_
      refine st_bsu1 (h := 33) Try.underlying27 ty5 rfl rfl rfl rfl rfl (fun b33 => ?_)
      refine at_heq (i := 33) (v' := .own (.slice (some ⟨b33, 0, none⟩) 1 1) 5 1 (ints .u8 ([(i : Int)]))) rfl rfl ?_
      refine st (ev_build_struct ty29 rfl pl29 rfl ((fill_put (i := 0) (off := 0) (n := 1) (vs := [.int .i64 (Bs.idOf ids i)]) rfl rfl rfl (Nat.le_of_ble_eq_true rfl)).trans ((fill_put (i := 1) (off := 1) (n := 1) (vs := [.slice (some ⟨b33, 0, none⟩) 1 1]) rfl rfl rfl (Nat.le_of_ble_eq_true rfl)).trans fill_nil))) rfl rfl rfl ?_
      refine at_eq (i := 34) (v' := .agg (List.toArray [.int .i64 (Bs.idOf ids i), (.slice (some ⟨b33, 0, none⟩) 1 1)])) rfl rfl ?_
      refine at_rows_nil 200 ?_
      refine st_callRM 200 has8 rfl (fun w1 sw => send_ok b16 q (.slice (some ⟨b33, 0, none⟩) 1 1) l i (Bs.idOf ids i) [(i : Int)] w1 (Bs.idOf_range ids i) (Nat.le_of_ble_eq_true rfl) (by omega) (by omega) (by omega) hq.one (sw.blk_eq (h := 0) rfl) (sw.hold 1 _ rfl) (sw.apart 0 _ 1 _ rfl rfl (by decide) _ (by simp [Ent.ids])) (sw.own_rd (h := 33) rfl) (sw.own_off (h := 0) (h' := 33) rfl rfl (by decide)) (sw.own_own (h := 1) (h' := 33) rfl rfl (by decide))) (mod_two rfl rfl) rfl rfl (fun x35 hx35 hf35 => ?_)
      obtain ⟨q35, v35⟩ := x35
      dsimp only at hx35 ⊢
      refine at_rowsjoin (i := 41) (i' := 200) (rs' := Bs.wrows (Bs.upS (l ++ [(⟨Bs.idOf ids i, v35, [(i : Int)], ((i + 1 : Nat) : Int)⟩ : Bs.W)]) l.length)) 41 rfl rfl (Bs.wrows_up) ?_
      refine st (ev_neq rfl rfl) rfl rfl rfl ?_
      refine op_nil ?_
      refine ax_then ?_
      refine At.regs (L' := [(0, _), (3, _), (4, _), (19, _), (20, _), (21, _), (22, _), (25, _), (26, _), (27, _), (28, _), (29, _), (30, _), (31, _), (32, _), (33, _), (34, _), (35, _), (36, _)]) (.cons rfl (.cons rfl (.cons rfl (.cons rfl (.cons rfl (.cons rfl (.cons rfl (.cons rfl (.cons rfl (.cons rfl (.cons rfl (.cons rfl (.cons rfl (.cons rfl (.cons rfl (.cons rfl (.cons rfl (.cons rfl (.cons rfl (.nil _)))))))))))))))))))) ?_
      refine cd_if_f rfl (fun h => h rfl) ?_
      refine cd_skip ?_
      refine ax_block ?_
      refine ax_then ?_
      refine At.regs (L' := [(0, _), (3, _), (4, _), (19, _), (20, _), (21, _), (22, _), (25, _), (26, _), (27, _), (28, _), (29, _), (30, _), (31, _), (32, _), (33, _), (34, _), (35, _), (36, _)]) (.cons rfl (.cons rfl (.cons rfl (.cons rfl (.cons rfl (.cons rfl (.cons rfl (.cons rfl (.cons rfl (.cons rfl (.cons rfl (.cons rfl (.cons rfl (.cons rfl (.cons rfl (.cons rfl (.cons rfl (.cons rfl (.cons rfl (.nil _)))))))))))))))))))) ?_
      refine cd_region ?_
      refine st (ev_move rfl) rfl rfl rfl ?_
      refine st (ev_add64 rfl rfl (by omega) (by omega)) rfl rfl rfl ?_
      refine st (ev_assign rfl) rfl rfl rfl ?_
      refine op_nil ?_
      exact at_again ((i + 1, q35, (Bs.upS (l ++ [(⟨Bs.idOf ids i, v35, [(i : Int)], ((i + 1 : Nat) : Int)⟩ : Bs.W)]) l.length))) (⟨by show i + 1 ≤ ids.length; omega, by show ((Bs.upS (l ++ [(⟨Bs.idOf ids i, v35, [(i : Int)], ((i + 1 : Nat) : Int)⟩ : Bs.W)]) l.length)).length = i + 1; rw [Bs.upS_len, List.length_append, hll]; rfl, by subst hll; exact hq.push hx35⟩) (by show ids.length - (i + 1) < ids.length - i; omega) (.cons rfl (.cons rfl (.cons rfl (.nil _)))) (.cons rfl (.cons rfl (.nil _))) (.cons rfl (.cons rfl (.nil _)))
    ·
      obtain rfl : i = ids.length := by omega
      refine cd_exit ?_
      refine ax_then_exit ?_
      refine ax_then_exit ?_
      refine ax_block_hit ?_
      refine ax_then ?_
      refine At.regs (L' := [(0, _), (3, _)]) (.cons rfl (.cons rfl (.nil _))) ?_
      refine cd_seq ?_
      refine cd_region ?_
      refine st_makeMap (h := 5) rfl rfl (fun b37 => ?_)
      refine st (ev_assign rfl) rfl rfl rfl ?_
      refine op_nil ?_
      refine ax_then ?_
      refine At.regs (L' := [(0, _), (3, _), (5, _)]) (.cons rfl (.cons rfl (.cons rfl (.nil _)))) ?_
      refine cd_seq ?_
      refine cd_region ?_
      refine st (ev_assign rfl) rfl rfl rfl ?_
      refine st (ev_assign rfl) rfl rfl rfl ?_
      refine op_nil ?_
      refine ax_then ?_
      refine At.regs (L' := [(0, _), (3, _), (5, _), (6, _), (7, _)]) (.cons rfl (.cons rfl (.cons rfl (.cons rfl (.cons rfl (.nil _)))))) ?_
      refine cd_seq ?_
      refine cd_seq ?_
      refine cd_region ?_
      refine st (ev_assign rfl) rfl rfl rfl ?_
      refine op_nil ?_
      refine ax_then ?_
      refine At.regs (L' := [(0, _), (3, _), (5, _), (6, _), (7, _), (8, _)]) (.cons rfl (.cons rfl (.cons rfl (.cons rfl (.cons rfl (.cons rfl (.nil _))))))) ?_
      refine cd_block ?_
      refine cd_loop (ι := Nat × Value × List Bs.W × List Int × Int × Int) (fun x => x.1 ≤ ids.length ∧ x.2.2.1.length + x.1 = ids.length ∧ Bs.Q1 ids ids.length x.2.2.1 ∧ Bs.Q2 x.2.2.2.1 x.2.2.2.2.1 x.2.2.2.2.2 x.2.2.1) (fun x => ids.length - x.1)
          (fun x => [(0, v), (3, .pointer (some ⟨b16, 0, none⟩)), (5, .map (some b37)), (6, .int .i64 x.2.2.2.2.1), (7, .int .i64 x.2.2.2.2.2), (8, .int .i64 (x.1 : Nat))])
          (fun x => [(0, .blk (b16) (.cells ([x.2.1, .int .i64 (ids.length : Nat)]).toArray 52)), (1, .own (x.2.1) 57 3 (Bs.wflat (x.2.2.1))), (5, .blk b37 (mobj x.2.2.2.1))])
          (fun x => [(22, .sl v 1 (ints .i64 ids)), (41, .rows (Bs.wrows x.2.2.1))])
          (0, q, l, [], -1, -1) (⟨Nat.zero_le _, hll, hq, Bs.Q2.start hq⟩) (.cons rfl (.cons rfl (.cons rfl (.cons rfl (.cons rfl (.cons rfl (.nil _))))))) (.cons rfl (.cons rfl (.cons rfl (.nil _)))) (.cons rfl (.cons rfl (.nil _))) (fun x hi => ?_)
      clear hq hll hi1
      obtain ⟨j, q, l, ks, last, place⟩ := x
      dsimp only at hi ⊢
      obtain ⟨hj1, hll, hq, hq2⟩ := hi
      refine cd_seq ?_
      refine cd_seq ?_
      refine cd_region ?_
      refine st (ev_move rfl) rfl rfl rfl ?_
      refine st (ev_move rfl) rfl rfl rfl ?_
      refine st (ev_len_rdi (h := 22) Try.underlying22 rfl rfl) rfl rfl rfl ?_
      refine st (ev_lss rfl rfl) rfl rfl rfl ?_
      refine op_nil ?_
      refine ax_then ?_
      refine At.regs (L' := [(0, _), (3, _), (5, _), (6, _), (7, _), (8, _), (38, _), (39, _), (40, _), (41, _)]) (.cons rfl (.cons rfl (.cons rfl (.cons rfl (.cons rfl (.cons rfl (.cons rfl (.cons rfl (.cons rfl (.cons rfl (.nil _))))))))))) ?_
      refine cd_if rfl (fun hc41 => ?_) (fun hc41 => ?_)
      ·
        have hpos : 0 < l.length := by omega
        obtain ⟨k, hkn, hkc, hkd, hki⟩ := hq.snt _ (Bs.first_mem hpos)
        have hks := (hq2 _ (Bs.first_mem hpos)).1 _ hkd
        have hlp := (hq2 _ (Bs.first_mem hpos)).2
        refine cd_skip ?_
        refine ax_then ?_
        refine At.regs (L' := [(0, _), (3, _), (5, _), (6, _), (7, _), (8, _), (38, _), (39, _), (40, _), (41, _)]) (.cons rfl (.cons rfl (.cons rfl (.cons rfl (.cons rfl (.cons rfl (.cons rfl (.cons rfl (.cons rfl (.cons rfl (.nil _))))))))))) ?_
        refine cd_seq ?_
        refine cd_block ?_
        refine cd_seq ?_
        refine cd_region ?_
        refine st (ev_move rfl) rfl rfl rfl ?_
        refine st_call has9 rfl (fun w1 sw => next_rest b16 q l ids.length w1 hq.hp hpos (by omega) hq.one (sw.blk_eq (h := 0) rfl) (sw.hold 1 _ rfl) (sw.apart 0 _ 1 _ rfl rfl (by decide) _ (by simp [Ent.ids]))) (mod_two rfl rfl) rfl rfl (fun q46 _ => ?_)
        refine at_rowsl (i := 41) 42 rfl (Bs.wrows_mem (Bs.first_mem hpos)) ?_
        refine at_feq (i := 42) (v' := .sl ((Bs.first l).dv) 1 (ints .u8 ([(k : Int)]))) rfl (by rw [hkd]) ?_
        refine at_rowsub (i := 41) (rs' := Bs.wrows (Bs.rest l)) 41 rfl (fun y hy => Bs.wrows_sub (fun x hx => Bs.rest_mem hq.hp hpos hx) y hy) ?_
        refine st (ev_move rfl) rfl rfl rfl ?_
        refine st (ev_extract rfl rfl) rfl rfl rfl ?_
        refine at_eq (i := 47) (v' := .agg (List.toArray [.int .i64 (Bs.first l).id, (Bs.first l).dv])) rfl rfl ?_
        refine st (ev_extract rfl rfl) rfl rfl rfl ?_
        refine at_eq (i := 48) (v' := .bool true) rfl rfl ?_
        refine st_alloc (h := 9) ty29 rfl rfl rfl (fun b9 => ?_)
        refine st_store_all 9 ty29 rfl rfl rfl rfl rfl (by intro u0 hu0; simp only [List.mem_cons, List.not_mem_nil, or_false] at hu0; rcases hu0 with rfl | rfl; rfl; exact hq.one _ (Bs.first_mem hpos)) rfl rfl ?_
        refine st (ev_assign rfl) rfl rfl rfl ?_
        refine op_nil ?_
        refine ax_then ?_
        refine At.regs (L' := [(0, _), (3, _), (5, _), (6, _), (7, _), (8, _), (9, _), (10, _), (38, _), (39, _), (40, _), (41, _), (44, _), (45, _), (46, _), (47, _), (48, _)]) (.cons rfl (.cons rfl (.cons rfl (.cons rfl (.cons rfl (.cons rfl (.cons rfl (.cons rfl (.cons rfl (.cons rfl (.cons rfl (.cons rfl (.cons rfl (.cons rfl (.cons rfl (.cons rfl (.cons rfl (.nil _)))))))))))))))))) ?_
        refine cd_seq ?_
        refine cd_seq ?_
        refine at_freeze_blk (h := 9) (H' := [(0, _), (1, _), (5, _)]) 9 rfl (.cons rfl (.cons rfl (.cons rfl (.nil _)))) rfl ?_
        refine cd_mix hmix ?_
        refine mx (i := 0) rfl (by decide +kernel) (by decide +kernel) (by decide +kernel) rfl (fun w0 => ev_move rfl) rfl rfl (Sub.refl _) ?_
        refine mx (i := 1) rfl (by decide +kernel) (by decide +kernel) (by decide +kernel) rfl (fun w0 => ev_not rfl) rfl rfl (Sub.refl _) ?_
        refine mx (i := 2) rfl (by decide +kernel) (by decide +kernel) (by decide +kernel) rfl (fun w0 => ev_move rfl) rfl rfl (Sub.refl _) ?_
        refine at_eq (i := 51) (v' := .bool false) rfl (by rfl) ?_
        refine mx (i := 3) rfl (by decide +kernel) (by decide +kernel) (by decide +kernel) rfl (fun w0 => ev_fieldAddr (b := _) Try.underlying29 (f := _) rfl ty27 (by decide) rfl) rfl rfl (Sub.refl _) ?_
        refine mx (i := 4) rfl (by decide +kernel) (by decide +kernel) (by decide +kernel) rfl (fun w0 => ld_mem1 (h := 9) ty27 rfl rfl rfl (Nat.zero_add _).symm rfl) rfl rfl (Sub.refl _) ?_
        refine mx (i := 5) rfl (by decide +kernel) (by decide +kernel) (by decide +kernel) rfl (fun w0 => ev_len_rd (h := 42) (n := 1) Try.underlying27 rfl rfl rfl (by decide)) rfl rfl (Sub.refl _) ?_
        refine mx (i := 6) rfl (by decide +kernel) (by decide +kernel) (by decide +kernel) rfl (fun w0 => ev_neq rfl rfl) rfl rfl (Sub.refl _) ?_
        refine mx (i := 7) rfl (by decide +kernel) (by decide +kernel) (by decide +kernel) rfl (fun w0 => ev_pick_f rfl rfl) rfl rfl (Sub.refl _) ?_
        refine mx (i := 8) rfl (by decide +kernel) (by decide +kernel) (by decide +kernel) rfl (fun w0 => ev_move rfl) rfl rfl (Sub.refl _) ?_
        refine at_eq (i := 57) (v' := .bool false) rfl (by simp only [Value.bool.injEq, decide_eq_true_eq, decide_eq_false_iff_not]; decide) ?_
        refine mx (i := 9) rfl (by decide +kernel) (by decide +kernel) (by decide +kernel) rfl (fun w0 => ev_move rfl) rfl rfl (Sub.refl _) ?_
        refine mx (i := 10) rfl (by decide +kernel) (by decide +kernel) (by decide +kernel) rfl (fun w0 => ev_fieldAddr (b := _) Try.underlying29 (f := _) rfl ty27 (by decide) rfl) rfl rfl (Sub.refl _) ?_
        refine mx (i := 11) rfl (by decide +kernel) (by decide +kernel) (by decide +kernel) rfl (fun w0 => ld_mem1 (h := 9) ty27 rfl rfl rfl (Nat.zero_add _).symm rfl) rfl rfl (Sub.refl _) ?_
        refine mx (i := 12) rfl (by decide +kernel) (by decide +kernel) (by decide +kernel) rfl (fun w0 => ev_indexAddr_rdi (h := 42) Try.underlying27 ty5 rfl rfl rfl (by omega) (by first | omega | (simp only [List.length_append, List.length_cons, List.length_nil, List.length_set, List.length_replicate, List.length_take, List.length_drop, ints_length, wr_length] <;> omega))) rfl rfl (Sub.refl _) ?_
        refine mx (i := 13) rfl (by decide +kernel) (by decide +kernel) (by decide +kernel) rfl (fun w0 => ld_rd1 (h := 42) ty5 rfl rfl rfl (ints_get _ _ _ (by first | omega | (simp only [List.length_append, List.length_cons, List.length_nil, List.length_set, List.length_replicate, List.length_take, List.length_drop, ints_length, wr_length] <;> omega) | rfl))) rfl rfl (Sub.refl _) ?_
        refine at_eq (i := 62) (v' := .int .u8 (k : Int)) rfl rfl ?_
        refine mx_one (i := 14) (by decide +kernel) (Sub.refl _) ?_
        refine wo (i := 14) rfl ?_
        refine st (ev_lookup (h := 5) Try.underlying30 Try.underlying5 ty4 rfl rfl rfl hks) rfl rfl rfl ?_
        refine op_nil ?_
        refine ax_then ?_
        refine mx (i := 15) rfl (by decide +kernel) (by decide +kernel) (by decide +kernel) rfl (fun w0 => ev_pick_f rfl rfl) rfl rfl (Sub.refl _) ?_
        refine mx (i := 16) rfl (by decide +kernel) (by decide +kernel) (by decide +kernel) rfl (fun w0 => ev_move rfl) rfl rfl (Sub.refl _) ?_
        refine mx (i := 17) rfl (by decide +kernel) (by decide +kernel) (by decide +kernel) rfl (fun w0 => ev_fieldAddr (b := _) Try.underlying29 (f := _) rfl ty3 (by decide) rfl) rfl rfl (Sub.refl _) ?_
        refine mx (i := 18) rfl (by decide +kernel) (by decide +kernel) (by decide +kernel) rfl (fun w0 => ld_mem1 (h := 9) ty3 rfl rfl rfl (Nat.zero_add _).symm rfl) rfl rfl (Sub.refl _) ?_
        refine mx (i := 19) rfl (by decide +kernel) (by decide +kernel) (by decide +kernel) rfl (fun w0 => ev_move rfl) rfl rfl (Sub.refl _) ?_
        refine mx (i := 20) rfl (by decide +kernel) (by decide +kernel) (by decide +kernel) rfl (fun w0 => ev_lss rfl rfl) rfl rfl (Sub.refl _) ?_
        refine mx (i := 21) rfl (by decide +kernel) (by decide +kernel) (by decide +kernel) rfl (fun w0 => ev_pick_f rfl rfl) rfl rfl (Sub.refl _) ?_
        refine mx (i := 22) rfl (by decide +kernel) (by decide +kernel) (by decide +kernel) rfl (fun w0 => ev_move rfl) rfl rfl (Sub.refl _) ?_
        refine at_eq (i := 71) (v' := .bool false) rfl (by simp only [Value.bool.injEq, decide_eq_true_eq, decide_eq_false_iff_not]; omega) ?_
        refine mx (i := 23) rfl (by decide +kernel) (by decide +kernel) (by decide +kernel) rfl (fun w0 => ev_move rfl) rfl rfl (Sub.refl _) ?_
        refine mx (i := 24) rfl (by decide +kernel) (by decide +kernel) (by decide +kernel) rfl (fun w0 => ev_fieldAddr (b := _) Try.underlying29 (f := _) rfl ty27 (by decide) rfl) rfl rfl (Sub.refl _) ?_
        refine mx (i := 25) rfl (by decide +kernel) (by decide +kernel) (by decide +kernel) rfl (fun w0 => ld_mem1 (h := 9) ty27 rfl rfl rfl (Nat.zero_add _).symm rfl) rfl rfl (Sub.refl _) ?_
        refine mx (i := 26) rfl (by decide +kernel) (by decide +kernel) (by decide +kernel) rfl (fun w0 => ev_indexAddr_rdi (h := 42) Try.underlying27 ty5 rfl rfl rfl (by omega) (by first | omega | (simp only [List.length_append, List.length_cons, List.length_nil, List.length_set, List.length_replicate, List.length_take, List.length_drop, ints_length, wr_length] <;> omega))) rfl rfl (Sub.refl _) ?_
        refine mx (i := 27) rfl (by decide +kernel) (by decide +kernel) (by decide +kernel) rfl (fun w0 => ld_rd1 (h := 42) ty5 rfl rfl rfl (ints_get _ _ _ (by first | omega | (simp only [List.length_append, List.length_cons, List.length_nil, List.length_set, List.length_replicate, List.length_take, List.length_drop, ints_length, wr_length] <;> omega) | rfl))) rfl rfl (Sub.refl _) ?_
        refine at_eq (i := 76) (v' := .int .u8 (k : Int)) rfl rfl ?_
        refine mx (i := 28) rfl (by decide +kernel) (by decide +kernel) (by decide +kernel) rfl (fun w0 => ev_conv64 Try.underlying5 Try.underlying3 rfl (by omega) (by omega)) rfl rfl (Sub.refl _) ?_
        refine mx (i := 29) rfl (by decide +kernel) (by decide +kernel) (by decide +kernel) rfl (fun w0 => ev_move rfl) rfl rfl (Sub.refl _) ?_
        refine mx (i := 30) rfl (by decide +kernel) (by decide +kernel) (by decide +kernel) rfl (fun w0 => ev_len_rdi (h := 22) Try.underlying22 rfl rfl) rfl rfl (Sub.refl _) ?_
        refine mx (i := 31) rfl (by decide +kernel) (by decide +kernel) (by decide +kernel) rfl (fun w0 => ev_rem64 rfl rfl (by omega) (by omega)) rfl rfl (Sub.refl _) ?_
        refine at_eq (i := 80) (v' := .int .i64 (k : Int)) rfl (by rw [Int.emod_eq_of_lt (by omega) (by omega)]) ?_
        refine mx (i := 32) rfl (by decide +kernel) (by decide +kernel) (by decide +kernel) rfl (fun w0 => ev_indexAddr_rdi (h := 22) Try.underlying22 ty3 rfl rfl rfl (by omega) (by first | omega | (simp only [List.length_append, List.length_cons, List.length_nil, List.length_set, List.length_replicate, List.length_take, List.length_drop, ints_length, wr_length] <;> omega))) rfl rfl (Sub.refl _) ?_
        refine mx (i := 33) rfl (by decide +kernel) (by decide +kernel) (by decide +kernel) rfl (fun w0 => ld_rd1 (h := 22) ty3 rfl rfl rfl (ints_get _ _ _ (by first | omega | (simp only [List.length_append, List.length_cons, List.length_nil, List.length_set, List.length_replicate, List.length_take, List.length_drop, ints_length, wr_length] <;> omega) | rfl))) rfl rfl (Sub.refl _) ?_
        refine at_eq (i := 82) (v' := .int .i64 (ids.getD k 0)) rfl (by rw [Int.toNat_natCast]) ?_
        refine mx (i := 34) rfl (by decide +kernel) (by decide +kernel) (by decide +kernel) rfl (fun w0 => ev_and rfl rfl) rfl rfl (Sub.refl _) ?_
        refine at_eq (i := 83) (v' := .int .i64 (Bs.idOf ids k)) rfl rfl ?_
        refine mx (i := 35) rfl (by decide +kernel) (by decide +kernel) (by decide +kernel) rfl (fun w0 => ev_fieldAddr (b := _) Try.underlying29 (f := _) rfl ty3 (by decide) rfl) rfl rfl (Sub.refl _) ?_
        refine mx (i := 36) rfl (by decide +kernel) (by decide +kernel) (by decide +kernel) rfl (fun w0 => ld_mem1 (h := 9) ty3 rfl rfl rfl (Nat.zero_add _).symm rfl) rfl rfl (Sub.refl _) ?_
        refine mx (i := 37) rfl (by decide +kernel) (by decide +kernel) (by decide +kernel) rfl (fun w0 => ev_neq rfl rfl) rfl rfl (Sub.refl _) ?_
        refine mx (i := 38) rfl (by decide +kernel) (by decide +kernel) (by decide +kernel) rfl (fun w0 => ev_pick_f rfl rfl) rfl rfl (Sub.refl _) ?_
        refine mx_done (by decide +kernel) (Sub.refl _) ?_
        refine ax_then ?_
        refine At.regs (L' := [(0, _), (3, _), (5, _), (6, _), (7, _), (8, _), (9, _), (10, _), (38, _), (39, _), (40, _), (41, _), (44, _), (45, _), (46, _), (47, _), (48, _), (49, _), (50, _), (51, _), (52, _), (53, _), (54, _), (55, _), (56, _), (57, _), (58, _), (59, _), (60, _), (61, _), (62, _), (63, _), (64, _), (65, _), (66, _), (67, _), (68, _), (69, _), (70, _), (71, _), (72, _), (73, _), (74, _), (75, _), (76, _), (77, _), (78, _), (79, _), (80, _), (81, _), (82, _), (83, _), (84, _), (85, _), (86, _), (87, _)]) (.cons rfl (.cons rfl (.cons rfl (.cons rfl (.cons rfl (.cons rfl (.cons rfl (.cons rfl (.cons rfl (.cons rfl (.cons rfl (.cons rfl (.cons rfl (.cons rfl (.cons rfl (.cons rfl (.cons rfl (.cons rfl (.cons rfl (.cons rfl (.cons rfl (.cons rfl (.cons rfl (.cons rfl (.cons rfl (.cons rfl (.cons rfl (.cons rfl (.cons rfl (.cons rfl (.cons rfl (.cons rfl (.cons rfl (.cons rfl (.cons rfl (.cons rfl (.cons rfl (.cons rfl (.cons rfl (.cons rfl (.cons rfl (.cons rfl (.cons rfl (.cons rfl (.cons rfl (.cons rfl (.cons rfl (.cons rfl (.cons rfl (.cons rfl (.cons rfl (.cons rfl (.cons rfl (.cons rfl (.cons rfl (.cons rfl (.nil _))))))))))))))))))))))))))))))))))))))))))))))))))))))))) ?_
        refine cd_if_f rfl (fun h => h hki.symm) ?_
        refine cd_skip ?_
        refine ax_then ?_
        refine At.regs (L' := [(0, _), (3, _), (5, _), (6, _), (7, _), (8, _), (9, _), (10, _), (38, _), (39, _), (40, _), (41, _), (44, _), (45, _), (46, _), (47, _), (48, _), (49, _), (50, _), (51, _), (52, _), (53, _), (54, _), (55, _), (56, _), (57, _), (58, _), (59, _), (60, _), (61, _), (62, _), (63, _), (64, _), (65, _), (66, _), (67, _), (68, _), (69, _), (70, _), (71, _), (72, _), (73, _), (74, _), (75, _), (76, _), (77, _), (78, _), (79, _), (80, _), (81, _), (82, _), (83, _), (84, _), (85, _), (86, _), (87, _)]) (.cons rfl (.cons rfl (.cons rfl (.cons rfl (.cons rfl (.cons rfl (.cons rfl (.cons rfl (.cons rfl (.cons rfl (.cons rfl (.cons rfl (.cons rfl (.cons rfl (.cons rfl (.cons rfl (.cons rfl (.cons rfl (.cons rfl (.cons rfl (.cons rfl (.cons rfl (.cons rfl (.cons rfl (.cons rfl (.cons rfl (.cons rfl (.cons rfl (.cons rfl (.cons rfl (.cons rfl (.cons rfl (.cons rfl (.cons rfl (.cons rfl (.cons rfl (.cons rfl (.cons rfl (.cons rfl (.cons rfl (.cons rfl (.cons rfl (.cons rfl (.cons rfl (.cons rfl (.cons rfl (.cons rfl (.cons rfl (.cons rfl (.cons rfl (.cons rfl (.cons rfl (.cons rfl (.cons rfl (.cons rfl (.cons rfl (.nil _))))))))))))))))))))))))))))))))))))))))))))))))))))))))) ?_
        refine cd_seq ?_
        refine cd_seq ?_
        refine cd_region ?_
        refine st (ev_fieldAddr (b := _) Try.underlying29 (f := _) rfl ty3 (by decide) rfl) rfl rfl rfl ?_
        refine st (ld_mem1 (h := 9) ty3 rfl rfl rfl (Nat.zero_add _).symm rfl) rfl rfl rfl ?_
        refine st (ev_move rfl) rfl rfl rfl ?_
        refine st (ev_eql rfl rfl) rfl rfl rfl ?_
        refine st (ev_move rfl) rfl rfl rfl ?_
        refine at_split_if (i := 92) rfl (fun hg92 => ?_) (fun hg92 => ?_)
        ·
          refine st (ev_fieldAddr (b := _) Try.underlying29 (f := _) rfl ty27 (by decide) rfl) rfl rfl rfl ?_
          refine st (ld_mem1 (h := 9) ty27 rfl rfl rfl (Nat.zero_add _).symm rfl) rfl rfl rfl ?_
          refine st (ev_indexAddr_rdi (h := 42) Try.underlying27 ty5 rfl rfl rfl (by omega) (by first | omega | (simp only [List.length_append, List.length_cons, List.length_nil, List.length_set, List.length_replicate, List.length_take, List.length_drop, ints_length, wr_length] <;> omega))) rfl rfl rfl ?_
          refine st (ld_rd1 (h := 42) ty5 rfl rfl rfl (ints_get _ _ _ (by first | omega | (simp only [List.length_append, List.length_cons, List.length_nil, List.length_set, List.length_replicate, List.length_take, List.length_drop, ints_length, wr_length] <;> omega) | rfl))) rfl rfl rfl ?_
          refine at_eq (i := 96) (v' := .int .u8 (k : Int)) rfl rfl ?_
          refine st (ev_conv64 Try.underlying5 Try.underlying3 rfl (by omega) (by omega)) rfl rfl rfl ?_
          refine st (ev_move rfl) rfl rfl rfl ?_
          refine st (ev_lss rfl rfl) rfl rfl rfl ?_
          refine st (ev_pick_t rfl rfl) rfl rfl rfl ?_
          refine at_eq (i := 100) (v' := .bool false) rfl (by first | rfl | exact congrArg Value.bool (decide_eq_false (by omega))) ?_
          refine op_nil ?_
          refine ax_then ?_
          refine At.regs (L' := [(0, _), (3, _), (5, _), (6, _), (7, _), (8, _), (9, _), (10, _), (38, _), (39, _), (40, _), (41, _), (44, _), (45, _), (46, _), (47, _), (48, _), (49, _), (50, _), (51, _), (52, _), (53, _), (54, _), (55, _), (56, _), (57, _), (58, _), (59, _), (60, _), (61, _), (62, _), (63, _), (64, _), (65, _), (66, _), (67, _), (68, _), (69, _), (70, _), (71, _), (72, _), (73, _), (74, _), (75, _), (76, _), (77, _), (78, _), (79, _), (80, _), (81, _), (82, _), (83, _), (84, _), (85, _), (86, _), (87, _), (88, _), (89, _), (90, _), (91, _), (92, _), (93, _), (94, _), (95, _), (96, _), (97, _), (98, _), (99, _), (100, _)]) (.cons rfl (.cons rfl (.cons rfl (.cons rfl (.cons rfl (.cons rfl (.cons rfl (.cons rfl (.cons rfl (.cons rfl (.cons rfl (.cons rfl (.cons rfl (.cons rfl (.cons rfl (.cons rfl (.cons rfl (.cons rfl (.cons rfl (.cons rfl (.cons rfl (.cons rfl (.cons rfl (.cons rfl (.cons rfl (.cons rfl (.cons rfl (.cons rfl (.cons rfl (.cons rfl (.cons rfl (.cons rfl (.cons rfl (.cons rfl (.cons rfl (.cons rfl (.cons rfl (.cons rfl (.cons rfl (.cons rfl (.cons rfl (.cons rfl (.cons rfl (.cons rfl (.cons rfl (.cons rfl (.cons rfl (.cons rfl (.cons rfl (.cons rfl (.cons rfl (.cons rfl (.cons rfl (.cons rfl (.cons rfl (.cons rfl (.cons rfl (.cons rfl (.cons rfl (.cons rfl (.cons rfl (.cons rfl (.cons rfl (.cons rfl (.cons rfl (.cons rfl (.cons rfl (.cons rfl (.cons rfl (.nil _)))))))))))))))))))))))))))))))))))))))))))))))))))))))))))))))))))))) ?_
          refine cd_false rfl ?_
          refine cd_skip ?_
          refine ax_then ?_
          refine At.regs (L' := [(0, _), (3, _), (5, _), (6, _), (7, _), (8, _), (9, _), (10, _), (38, _), (39, _), (40, _), (41, _), (44, _), (45, _), (46, _), (47, _), (48, _), (49, _), (50, _), (51, _), (52, _), (53, _), (54, _), (55, _), (56, _), (57, _), (58, _), (59, _), (60, _), (61, _), (62, _), (63, _), (64, _), (65, _), (66, _), (67, _), (68, _), (69, _), (70, _), (71, _), (72, _), (73, _), (74, _), (75, _), (76, _), (77, _), (78, _), (79, _), (80, _), (81, _), (82, _), (83, _), (84, _), (85, _), (86, _), (87, _), (88, _), (89, _), (90, _), (91, _), (92, _), (93, _), (94, _), (95, _), (96, _), (97, _), (98, _), (99, _), (100, _)]) (.cons rfl (.cons rfl (.cons rfl (.cons rfl (.cons rfl (.cons rfl (.cons rfl (.cons rfl (.cons rfl (.cons rfl (.cons rfl (.cons rfl (.cons rfl (.cons rfl (.cons rfl (.cons rfl (.cons rfl (.cons rfl (.cons rfl (.cons rfl (.cons rfl (.cons rfl (.cons rfl (.cons rfl (.cons rfl (.cons rfl (.cons rfl (.cons rfl (.cons rfl (.cons rfl (.cons rfl (.cons rfl (.cons rfl (.cons rfl (.cons rfl (.cons rfl (.cons rfl (.cons rfl (.cons rfl (.cons rfl (.cons rfl (.cons rfl (.cons rfl (.cons rfl (.cons rfl (.cons rfl (.cons rfl (.cons rfl (.cons rfl (.cons rfl (.cons rfl (.cons rfl (.cons rfl (.cons rfl (.cons rfl (.cons rfl (.cons rfl (.cons rfl (.cons rfl (.cons rfl (.cons rfl (.cons rfl (.cons rfl (.cons rfl (.cons rfl (.cons rfl (.cons rfl (.cons rfl (.cons rfl (.nil _)))))))))))))))))))))))))))))))))))))))))))))))))))))))))))))))))))))) ?_
          refine cd_seq ?_
          refine cd_region ?_
          refine st (ev_move rfl) rfl rfl rfl ?_
          refine st (ev_fieldAddr (b := _) Try.underlying29 (f := _) rfl ty27 (by decide) rfl) rfl rfl rfl ?_
          refine st (ld_mem1 (h := 9) ty27 rfl rfl rfl (Nat.zero_add _).symm rfl) rfl rfl rfl ?_
          refine st (ev_indexAddr_rdi (h := 42) Try.underlying27 ty5 rfl rfl rfl (by omega) (by first | omega | (simp only [List.length_append, List.length_cons, List.length_nil, List.length_set, List.length_replicate, List.length_take, List.length_drop, ints_length, wr_length] <;> omega))) rfl rfl rfl ?_
          refine st (ld_rd1 (h := 42) ty5 rfl rfl rfl (ints_get _ _ _ (by first | omega | (simp only [List.length_append, List.length_cons, List.length_nil, List.length_set, List.length_replicate, List.length_take, List.length_drop, ints_length, wr_length] <;> omega) | rfl))) rfl rfl rfl ?_
          refine at_eq (i := 105) (v' := .int .u8 (k : Int)) rfl rfl ?_
          refine st_mapUpdate 5 Try.underlying30 Try.underlying5 rfl rfl rfl rfl hks rfl ?_
          refine op_nil ?_
          refine ax_then ?_
          refine At.regs (L' := [(0, _), (3, _), (5, _), (6, _), (7, _), (8, _), (9, _), (10, _), (38, _), (39, _), (40, _), (41, _), (44, _), (45, _), (46, _), (47, _), (48, _), (49, _), (50, _), (51, _), (52, _), (53, _), (54, _), (55, _), (56, _), (57, _), (58, _), (59, _), (60, _), (61, _), (62, _), (63, _), (64, _), (65, _), (66, _), (67, _), (68, _), (69, _), (70, _), (71, _), (72, _), (73, _), (74, _), (75, _), (76, _), (77, _), (78, _), (79, _), (80, _), (81, _), (82, _), (83, _), (84, _), (85, _), (86, _), (87, _), (88, _), (89, _), (90, _), (91, _), (92, _), (93, _), (94, _), (95, _), (96, _), (97, _), (98, _), (99, _), (100, _), (101, _), (102, _), (103, _), (104, _), (105, _)]) (.cons rfl (.cons rfl (.cons rfl (.cons rfl (.cons rfl (.cons rfl (.cons rfl (.cons rfl (.cons rfl (.cons rfl (.cons rfl (.cons rfl (.cons rfl (.cons rfl (.cons rfl (.cons rfl (.cons rfl (.cons rfl (.cons rfl (.cons rfl (.cons rfl (.cons rfl (.cons rfl (.cons rfl (.cons rfl (.cons rfl (.cons rfl (.cons rfl (.cons rfl (.cons rfl (.cons rfl (.cons rfl (.cons rfl (.cons rfl (.cons rfl (.cons rfl (.cons rfl (.cons rfl (.cons rfl (.cons rfl (.cons rfl (.cons rfl (.cons rfl (.cons rfl (.cons rfl (.cons rfl (.cons rfl (.cons rfl (.cons rfl (.cons rfl (.cons rfl (.cons rfl (.cons rfl (.cons rfl (.cons rfl (.cons rfl (.cons rfl (.cons rfl (.cons rfl (.cons rfl (.cons rfl (.cons rfl (.cons rfl (.cons rfl (.cons rfl (.cons rfl (.cons rfl (.cons rfl (.cons rfl (.cons rfl (.cons rfl (.cons rfl (.cons rfl (.cons rfl (.nil _))))))))))))))))))))))))))))))))))))))))))))))))))))))))))))))))))))))))))) ?_
          refine cd_mix hmix ?_
          refine mx (i := 0) rfl (by decide +kernel) (by decide +kernel) (by decide +kernel) rfl (fun w0 => ev_fieldAddr (b := _) Try.underlying29 (f := _) rfl ty3 (by decide) rfl) rfl rfl (Sub.refl _) ?_
          refine mx (i := 1) rfl (by decide +kernel) (by decide +kernel) (by decide +kernel) rfl (fun w0 => ld_mem1 (h := 9) ty3 rfl rfl rfl (Nat.zero_add _).symm rfl) rfl rfl (Sub.refl _) ?_
          refine mx (i := 2) rfl (by decide +kernel) (by decide +kernel) (by decide +kernel) rfl (fun w0 => ev_fieldAddr (b := _) Try.underlying29 (f := _) rfl ty27 (by decide) rfl) rfl rfl (Sub.refl _) ?_
          refine mx (i := 3) rfl (by decide +kernel) (by decide +kernel) (by decide +kernel) rfl (fun w0 => ld_mem1 (h := 9) ty27 rfl rfl rfl (Nat.zero_add _).symm rfl) rfl rfl (Sub.refl _) ?_
          refine mx (i := 4) rfl (by decide +kernel) (by decide +kernel) (by decide +kernel) rfl (fun w0 => ev_indexAddr_rdi (h := 42) Try.underlying27 ty5 rfl rfl rfl (by omega) (by first | omega | (simp only [List.length_append, List.length_cons, List.length_nil, List.length_set, List.length_replicate, List.length_take, List.length_drop, ints_length, wr_length] <;> omega))) rfl rfl (Sub.refl _) ?_
          refine mx (i := 5) rfl (by decide +kernel) (by decide +kernel) (by decide +kernel) rfl (fun w0 => ld_rd1 (h := 42) ty5 rfl rfl rfl (ints_get _ _ _ (by first | omega | (simp only [List.length_append, List.length_cons, List.length_nil, List.length_set, List.length_replicate, List.length_take, List.length_drop, ints_length, wr_length] <;> omega) | rfl))) rfl rfl (Sub.refl _) ?_
          refine at_eq (i := 111) (v' := .int .u8 (k : Int)) rfl rfl ?_
          refine mx (i := 6) rfl (by decide +kernel) (by decide +kernel) (by decide +kernel) rfl (fun w0 => ev_conv64 Try.underlying5 Try.underlying3 rfl (by omega) (by omega)) rfl rfl (Sub.refl _) ?_
          refine mx (i := 7) rfl (by decide +kernel) (by decide +kernel) (by decide +kernel) rfl (fun w0 => ev_assign rfl) rfl rfl (Sub.refl _) ?_
          refine mx (i := 8) rfl (by decide +kernel) (by decide +kernel) (by decide +kernel) rfl (fun w0 => ev_assign rfl) rfl rfl (Sub.refl _) ?_
          refine mx_done (by decide +kernel) (Sub.refl _) ?_
          refine ax_block ?_
          refine ax_then ?_
          refine At.regs (L' := [(0, _), (3, _), (5, _), (6, _), (7, _), (8, _), (9, _), (10, _), (38, _), (39, _), (40, _), (41, _), (44, _), (45, _), (46, _), (47, _), (48, _), (49, _), (50, _), (51, _), (52, _), (53, _), (54, _), (55, _), (56, _), (57, _), (58, _), (59, _), (60, _), (61, _), (62, _), (63, _), (64, _), (65, _), (66, _), (67, _), (68, _), (69, _), (70, _), (71, _), (72, _), (73, _), (74, _), (75, _), (76, _), (77, _), (78, _), (79, _), (80, _), (81, _), (82, _), (83, _), (84, _), (85, _), (86, _), (87, _), (88, _), (89, _), (90, _), (91, _), (92, _), (93, _), (94, _), (95, _), (96, _), (97, _), (98, _), (99, _), (100, _), (101, _), (102, _), (103, _), (104, _), (105, _), (106, _), (107, _), (108, _), (109, _), (110, _), (111, _), (112, _)]) (.cons rfl (.cons rfl (.cons rfl (.cons rfl (.cons rfl (.cons rfl (.cons rfl (.cons rfl (.cons rfl (.cons rfl (.cons rfl (.cons rfl (.cons rfl (.cons rfl (.cons rfl (.cons rfl (.cons rfl (.cons rfl (.cons rfl (.cons rfl (.cons rfl (.cons rfl (.cons rfl (.cons rfl (.cons rfl (.cons rfl (.cons rfl (.cons rfl (.cons rfl (.cons rfl (.cons rfl (.cons rfl (.cons rfl (.cons rfl (.cons rfl (.cons rfl (.cons rfl (.cons rfl (.cons rfl (.cons rfl (.cons rfl (.cons rfl (.cons rfl (.cons rfl (.cons rfl (.cons rfl (.cons rfl (.cons rfl (.cons rfl (.cons rfl (.cons rfl (.cons rfl (.cons rfl (.cons rfl (.cons rfl (.cons rfl (.cons rfl (.cons rfl (.cons rfl (.cons rfl (.cons rfl (.cons rfl (.cons rfl (.cons rfl (.cons rfl (.cons rfl (.cons rfl (.cons rfl (.cons rfl (.cons rfl (.cons rfl (.cons rfl (.cons rfl (.cons rfl (.cons rfl (.cons rfl (.cons rfl (.cons rfl (.cons rfl (.cons rfl (.cons rfl (.nil _)))))))))))))))))))))))))))))))))))))))))))))))))))))))))))))))))))))))))))))))))) ?_
          refine cd_region ?_
          refine st (ev_move rfl) rfl rfl rfl ?_
          refine st (ev_add64 rfl rfl (by omega) (by omega)) rfl rfl rfl ?_
          refine st (ev_assign rfl) rfl rfl rfl ?_
          refine op_nil ?_
          exact at_again ((j + 1, q46, Bs.rest l, ks ++ [(k : Int)], (Bs.first l).id, (k : Int))) (⟨by show j + 1 ≤ ids.length; omega, by show (Bs.rest l).length + (j + 1) = ids.length; rw [Bs.rest_len]; omega, (hq.pop hpos).1, hq2.pop hq hpos hkc⟩) (by show ids.length - (j + 1) < ids.length - j; omega) (.cons rfl (.cons rfl (.cons rfl (.cons rfl (.cons rfl (.cons rfl (.nil _))))))) (.cons rfl (.cons rfl (.cons rfl (.nil _)))) (.cons rfl (.cons rfl (.nil _)))
        ·
          refine st_skip rfl rfl rfl ?_
          refine st_skip rfl rfl rfl ?_
          refine st_skip rfl rfl rfl ?_
          refine st_skip rfl rfl rfl ?_
          refine st_skip rfl rfl rfl ?_
          refine st_skip rfl rfl rfl ?_
          refine st_skip rfl rfl rfl ?_
          refine st (ev_pick_f rfl rfl) rfl rfl rfl ?_
          refine at_eq (i := 100) (v' := .bool false) rfl (by first | rfl | exact congrArg Value.bool (decide_eq_false (by omega))) ?_
          refine op_nil ?_
          refine ax_then ?_
          refine At.regs (L' := [(0, _), (3, _), (5, _), (6, _), (7, _), (8, _), (9, _), (10, _), (38, _), (39, _), (40, _), (41, _), (44, _), (45, _), (46, _), (47, _), (48, _), (49, _), (50, _), (51, _), (52, _), (53, _), (54, _), (55, _), (56, _), (57, _), (58, _), (59, _), (60, _), (61, _), (62, _), (63, _), (64, _), (65, _), (66, _), (67, _), (68, _), (69, _), (70, _), (71, _), (72, _), (73, _), (74, _), (75, _), (76, _), (77, _), (78, _), (79, _), (80, _), (81, _), (82, _), (83, _), (84, _), (85, _), (86, _), (87, _), (88, _), (89, _), (90, _), (91, _), (92, _), (93, _), (94, _), (95, _), (96, _), (97, _), (98, _), (99, _), (100, _)]) (.cons rfl (.cons rfl (.cons rfl (.cons rfl (.cons rfl (.cons rfl (.cons rfl (.cons rfl (.cons rfl (.cons rfl (.cons rfl (.cons rfl (.cons rfl (.cons rfl (.cons rfl (.cons rfl (.cons rfl (.cons rfl (.cons rfl (.cons rfl (.cons rfl (.cons rfl (.cons rfl (.cons rfl (.cons rfl (.cons rfl (.cons rfl (.cons rfl (.cons rfl (.cons rfl (.cons rfl (.cons rfl (.cons rfl (.cons rfl (.cons rfl (.cons rfl (.cons rfl (.cons rfl (.cons rfl (.cons rfl (.cons rfl (.cons rfl (.cons rfl (.cons rfl (.cons rfl (.cons rfl (.cons rfl (.cons rfl (.cons rfl (.cons rfl (.cons rfl (.cons rfl (.cons rfl (.cons rfl (.cons rfl (.cons rfl (.cons rfl (.cons rfl (.cons rfl (.cons rfl (.cons rfl (.cons rfl (.cons rfl (.cons rfl (.cons rfl (.cons rfl (.cons rfl (.cons rfl (.cons rfl (.nil _)))))))))))))))))))))))))))))))))))))))))))))))))))))))))))))))))))))) ?_
          refine cd_false rfl ?_
          refine cd_skip ?_
          refine ax_then ?_
          refine At.regs (L' := [(0, _), (3, _), (5, _), (6, _), (7, _), (8, _), (9, _), (10, _), (38, _), (39, _), (40, _), (41, _), (44, _), (45, _), (46, _), (47, _), (48, _), (49, _), (50, _), (51, _), (52, _), (53, _), (54, _), (55, _), (56, _), (57, _), (58, _), (59, _), (60, _), (61, _), (62, _), (63, _), (64, _), (65, _), (66, _), (67, _), (68, _), (69, _), (70, _), (71, _), (72, _), (73, _), (74, _), (75, _), (76, _), (77, _), (78, _), (79, _), (80, _), (81, _), (82, _), (83, _), (84, _), (85, _), (86, _), (87, _), (88, _), (89, _), (90, _), (91, _), (92, _), (93, _), (94, _), (95, _), (96, _), (97, _), (98, _), (99, _), (100, _)]) (.cons rfl (.cons rfl (.cons rfl (.cons rfl (.cons rfl (.cons rfl (.cons rfl (.cons rfl (.cons rfl (.cons rfl (.cons rfl (.cons rfl (.cons rfl (.cons rfl (.cons rfl (.cons rfl (.cons rfl (.cons rfl (.cons rfl (.cons rfl (.cons rfl (.cons rfl (.cons rfl (.cons rfl (.cons rfl (.cons rfl (.cons rfl (.cons rfl (.cons rfl (.cons rfl (.cons rfl (.cons rfl (.cons rfl (.cons rfl (.cons rfl (.cons rfl (.cons rfl (.cons rfl (.cons rfl (.cons rfl (.cons rfl (.cons rfl (.cons rfl (.cons rfl (.cons rfl (.cons rfl (.cons rfl (.cons rfl (.cons rfl (.cons rfl (.cons rfl (.cons rfl (.cons rfl (.cons rfl (.cons rfl (.cons rfl (.cons rfl (.cons rfl (.cons rfl (.cons rfl (.cons rfl (.cons rfl (.cons rfl (.cons rfl (.cons rfl (.cons rfl (.cons rfl (.cons rfl (.cons rfl (.nil _)))))))))))))))))))))))))))))))))))))))))))))))))))))))))))))))))))))) ?_
          refine cd_seq ?_
          refine cd_region ?_
          refine st (ev_move rfl) rfl rfl rfl ?_
          refine st (ev_fieldAddr (b := _) Try.underlying29 (f := _) rfl ty27 (by decide) rfl) rfl rfl rfl ?_
          refine st (ld_mem1 (h := 9) ty27 rfl rfl rfl (Nat.zero_add _).symm rfl) rfl rfl rfl ?_
          refine st (ev_indexAddr_rdi (h := 42) Try.underlying27 ty5 rfl rfl rfl (by omega) (by first | omega | (simp only [List.length_append, List.length_cons, List.length_nil, List.length_set, List.length_replicate, List.length_take, List.length_drop, ints_length, wr_length] <;> omega))) rfl rfl rfl ?_
          refine st (ld_rd1 (h := 42) ty5 rfl rfl rfl (ints_get _ _ _ (by first | omega | (simp only [List.length_append, List.length_cons, List.length_nil, List.length_set, List.length_replicate, List.length_take, List.length_drop, ints_length, wr_length] <;> omega) | rfl))) rfl rfl rfl ?_
          refine at_eq (i := 105) (v' := .int .u8 (k : Int)) rfl rfl ?_
          refine st_mapUpdate 5 Try.underlying30 Try.underlying5 rfl rfl rfl rfl hks rfl ?_
          refine op_nil ?_
          refine ax_then ?_
          refine At.regs (L' := [(0, _), (3, _), (5, _), (6, _), (7, _), (8, _), (9, _), (10, _), (38, _), (39, _), (40, _), (41, _), (44, _), (45, _), (46, _), (47, _), (48, _), (49, _), (50, _), (51, _), (52, _), (53, _), (54, _), (55, _), (56, _), (57, _), (58, _), (59, _), (60, _), (61, _), (62, _), (63, _), (64, _), (65, _), (66, _), (67, _), (68, _), (69, _), (70, _), (71, _), (72, _), (73, _), (74, _), (75, _), (76, _), (77, _), (78, _), (79, _), (80, _), (81, _), (82, _), (83, _), (84, _), (85, _), (86, _), (87, _), (88, _), (89, _), (90, _), (91, _), (92, _), (93, _), (94, _), (95, _), (96, _), (97, _), (98, _), (99, _), (100, _), (101, _), (102, _), (103, _), (104, _), (105, _)]) (.cons rfl (.cons rfl (.cons rfl (.cons rfl (.cons rfl (.cons rfl (.cons rfl (.cons rfl (.cons rfl (.cons rfl (.cons rfl (.cons rfl (.cons rfl (.cons rfl (.cons rfl (.cons rfl (.cons rfl (.cons rfl (.cons rfl (.cons rfl (.cons rfl (.cons rfl (.cons rfl (.cons rfl (.cons rfl (.cons rfl (.cons rfl (.cons rfl (.cons rfl (.cons rfl (.cons rfl (.cons rfl (.cons rfl (.cons rfl (.cons rfl (.cons rfl (.cons rfl (.cons rfl (.cons rfl (.cons rfl (.cons rfl (.cons rfl (.cons rfl (.cons rfl (.cons rfl (.cons rfl (.cons rfl (.cons rfl (.cons rfl (.cons rfl (.cons rfl (.cons rfl (.cons rfl (.cons rfl (.cons rfl (.cons rfl (.cons rfl (.cons rfl (.cons rfl (.cons rfl (.cons rfl (.cons rfl (.cons rfl (.cons rfl (.cons rfl (.cons rfl (.cons rfl (.cons rfl (.cons rfl (.cons rfl (.cons rfl (.cons rfl (.cons rfl (.cons rfl (.nil _))))))))))))))))))))))))))))))))))))))))))))))))))))))))))))))))))))))))))) ?_
          refine cd_mix hmix ?_
          refine mx (i := 0) rfl (by decide +kernel) (by decide +kernel) (by decide +kernel) rfl (fun w0 => ev_fieldAddr (b := _) Try.underlying29 (f := _) rfl ty3 (by decide) rfl) rfl rfl (Sub.refl _) ?_
          refine mx (i := 1) rfl (by decide +kernel) (by decide +kernel) (by decide +kernel) rfl (fun w0 => ld_mem1 (h := 9) ty3 rfl rfl rfl (Nat.zero_add _).symm rfl) rfl rfl (Sub.refl _) ?_
          refine mx (i := 2) rfl (by decide +kernel) (by decide +kernel) (by decide +kernel) rfl (fun w0 => ev_fieldAddr (b := _) Try.underlying29 (f := _) rfl ty27 (by decide) rfl) rfl rfl (Sub.refl _) ?_
          refine mx (i := 3) rfl (by decide +kernel) (by decide +kernel) (by decide +kernel) rfl (fun w0 => ld_mem1 (h := 9) ty27 rfl rfl rfl (Nat.zero_add _).symm rfl) rfl rfl (Sub.refl _) ?_
          refine mx (i := 4) rfl (by decide +kernel) (by decide +kernel) (by decide +kernel) rfl (fun w0 => ev_indexAddr_rdi (h := 42) Try.underlying27 ty5 rfl rfl rfl (by omega) (by first | omega | (simp only [List.length_append, List.length_cons, List.length_nil, List.length_set, List.length_replicate, List.length_take, List.length_drop, ints_length, wr_length] <;> omega))) rfl rfl (Sub.refl _) ?_
          refine mx (i := 5) rfl (by decide +kernel) (by decide +kernel) (by decide +kernel) rfl (fun w0 => ld_rd1 (h := 42) ty5 rfl rfl rfl (ints_get _ _ _ (by first | omega | (simp only [List.length_append, List.length_cons, List.length_nil, List.length_set, List.length_replicate, List.length_take, List.length_drop, ints_length, wr_length] <;> omega) | rfl))) rfl rfl (Sub.refl _) ?_
          refine at_eq (i := 111) (v' := .int .u8 (k : Int)) rfl rfl ?_
          refine mx (i := 6) rfl (by decide +kernel) (by decide +kernel) (by decide +kernel) rfl (fun w0 => ev_conv64 Try.underlying5 Try.underlying3 rfl (by omega) (by omega)) rfl rfl (Sub.refl _) ?_
          refine mx (i := 7) rfl (by decide +kernel) (by decide +kernel) (by decide +kernel) rfl (fun w0 => ev_assign rfl) rfl rfl (Sub.refl _) ?_
          refine mx (i := 8) rfl (by decide +kernel) (by decide +kernel) (by decide +kernel) rfl (fun w0 => ev_assign rfl) rfl rfl (Sub.refl _) ?_
          refine mx_done (by decide +kernel) (Sub.refl _) ?_
          refine ax_block ?_
          refine ax_then ?_
          refine At.regs (L' := [(0, _), (3, _), (5, _), (6, _), (7, _), (8, _), (9, _), (10, _), (38, _), (39, _), (40, _), (41, _), (44, _), (45, _), (46, _), (47, _), (48, _), (49, _), (50, _), (51, _), (52, _), (53, _), (54, _), (55, _), (56, _), (57, _), (58, _), (59, _), (60, _), (61, _), (62, _), (63, _), (64, _), (65, _), (66, _), (67, _), (68, _), (69, _), (70, _), (71, _), (72, _), (73, _), (74, _), (75, _), (76, _), (77, _), (78, _), (79, _), (80, _), (81, _), (82, _), (83, _), (84, _), (85, _), (86, _), (87, _), (88, _), (89, _), (90, _), (91, _), (92, _), (93, _), (94, _), (95, _), (96, _), (97, _), (98, _), (99, _), (100, _), (101, _), (102, _), (103, _), (104, _), (105, _), (106, _), (107, _), (108, _), (109, _), (110, _), (111, _), (112, _)]) (.cons rfl (.cons rfl (.cons rfl (.cons rfl (.cons rfl (.cons rfl (.cons rfl (.cons rfl (.cons rfl (.cons rfl (.cons rfl (.cons rfl (.cons rfl (.cons rfl (.cons rfl (.cons rfl (.cons rfl (.cons rfl (.cons rfl (.cons rfl (.cons rfl (.cons rfl (.cons rfl (.cons rfl (.cons rfl (.cons rfl (.cons rfl (.cons rfl (.cons rfl (.cons rfl (.cons rfl (.cons rfl (.cons rfl (.cons rfl (.cons rfl (.cons rfl (.cons rfl (.cons rfl (.cons rfl (.cons rfl (.cons rfl (.cons rfl (.cons rfl (.cons rfl (.cons rfl (.cons rfl (.cons rfl (.cons rfl (.cons rfl (.cons rfl (.cons rfl (.cons rfl (.cons rfl (.cons rfl (.cons rfl (.cons rfl (.cons rfl (.cons rfl (.cons rfl (.cons rfl (.cons rfl (.cons rfl (.cons rfl (.cons rfl (.cons rfl (.cons rfl (.cons rfl (.cons rfl (.cons rfl (.cons rfl (.cons rfl (.cons rfl (.cons rfl (.cons rfl (.cons rfl (.cons rfl (.cons rfl (.cons rfl (.cons rfl (.cons rfl (.cons rfl (.nil _)))))))))))))))))))))))))))))))))))))))))))))))))))))))))))))))))))))))))))))))))) ?_
          refine cd_region ?_
          refine st (ev_move rfl) rfl rfl rfl ?_
          refine st (ev_add64 rfl rfl (by omega) (by omega)) rfl rfl rfl ?_
          refine st (ev_assign rfl) rfl rfl rfl ?_
          refine op_nil ?_
          exact at_again ((j + 1, q46, Bs.rest l, ks ++ [(k : Int)], (Bs.first l).id, (k : Int))) (⟨by show j + 1 ≤ ids.length; omega, by show (Bs.rest l).length + (j + 1) = ids.length; rw [Bs.rest_len]; omega, (hq.pop hpos).1, hq2.pop hq hpos hkc⟩) (by show ids.length - (j + 1) < ids.length - j; omega) (.cons rfl (.cons rfl (.cons rfl (.cons rfl (.cons rfl (.cons rfl (.nil _))))))) (.cons rfl (.cons rfl (.cons rfl (.nil _)))) (.cons rfl (.cons rfl (.nil _)))
      ·
        obtain rfl : l = [] := List.length_eq_zero_iff.1 (by omega)
        refine cd_exit ?_
        refine ax_then_exit ?_
        refine ax_then_exit ?_
        refine ax_block_hit ?_
        refine ax_then ?_
        refine At.regs (L' := [(3, _)]) (.cons rfl (.nil _)) ?_
        refine cd_seq ?_
        refine cd_region ?_
        refine st (ev_move rfl) rfl rfl rfl ?_
        refine st_callv has9 rfl (fun w1 sw => next_emp b16 q (.int .i64 (ids.length : Nat)) w1 (lies_blk (sw.blk_eq (h := 0) rfl)) (sw.own_rd (h := 1) rfl)) rfl rfl ?_
        refine st (ev_move rfl) rfl rfl rfl ?_
        refine st (ev_extract rfl rfl) rfl rfl rfl ?_
        refine at_eq (i := 116) (v' := .agg (List.toArray [.int .i64 0, .slice none 0 0])) rfl rfl ?_
        refine st (ev_extract rfl rfl) rfl rfl rfl ?_
        refine at_eq (i := 117) (v' := .bool false) rfl rfl ?_
        refine st_alloc (h := 11) ty29 rfl rfl rfl (fun b11 => ?_)
        refine st_store_all 11 ty29 rfl rfl rfl rfl rfl (by intro u0 hu0; simp only [List.mem_cons, List.not_mem_nil, or_false] at hu0; rcases hu0 with rfl | rfl <;> rfl) rfl rfl ?_
        refine st (ev_assign rfl) rfl rfl rfl ?_
        refine op_nil ?_
        refine ax_then ?_
        refine At.regs (L' := [(3, _), (12, _)]) (.cons rfl (.cons rfl (.nil _))) ?_
        refine cd_seq ?_
        refine cd_region ?_
        refine st (ev_move rfl) rfl rfl rfl ?_
        refine st (ev_not rfl) rfl rfl rfl ?_
        refine st (ev_move rfl) rfl rfl rfl ?_
        refine at_eq (i := 120) (v' := .bool true) rfl (by rfl) ?_
        refine st (ev_move rfl) rfl rfl rfl ?_
        refine st_callv has10 rfl (fun w1 sw => blen_any b16 q (.int .i64 (ids.length : Nat)) [] w1 (lies_blk (sw.blk_eq (h := 0) rfl)) (sw.own_rd (h := 1) rfl)) rfl rfl ?_
        refine st (ev_eql rfl rfl) rfl rfl rfl ?_
        refine st (ev_pick_t rfl rfl) rfl rfl rfl ?_
        refine st (ev_move rfl) rfl rfl rfl ?_
        refine at_eq (i := 125) (v' := .bool true) rfl (by rfl) ?_
        refine st_callv has11 rfl (fun w1 sw => known14_any w1) rfl rfl ?_
        refine st (ev_pick_t rfl rfl) rfl rfl rfl ?_
        refine st (ev_assign rfl) rfl rfl rfl ?_
        refine op_nil ?_
        refine ax_then ?_
        refine At.regs (L' := [(2, _)]) (.cons rfl (.nil _)) ?_
        refine cd_ret ?_
        refine rt_tmp (.inl rfl) Try.results3 rfl ?_
        exact fun w1 sw => ⟨rfl, sw.gives (.nil _)⟩
end Go.Proofs.Ytfddplpljjlgiaa

namespace Go.Proofs.Ytfddplpljjlgiaa
open Go Go.ChangeShapes Go.WideShapes Go.ChangeAt Go.RowKit Fw
set_option linter.unusedVariables false
theorem laid : laidOutB Try.prog = true := by kernel_rfl
namespace busOrder
theorem own : ownKnob Try.prog.godebug = none := by kernel_rfl
set_option maxRecDepth 100000 in
theorem lifted (os : Os) (started : os.Started) (H : Type) (enc : TypeId × Value → H) :
    ReturnsInHanded {} Try.checked os 3 .any (Rows.busOrderSpec.pre6 enc Try.prog Try.f3 Rows.busOrderRow.domain false) (Rows.busOrderSpec.post enc Try.prog Try.f3 false true false false) := by
  refine returnsInHanded_of_change_sized (C := Try.checked) own started (by kernel_rfl) Try.func3
    (ChangeSpec.witness6 (enc := enc) (C := Try.checked) false ⟨#[], #[.slice none 0 0], []⟩ 8 (by kernel_rfl) (by kernel_rfl) (by kernel_rfl) (by kernel_rfl)) ?_
  intro W base args ds gs before hval0 hW hcnd hsz _
  have hval : ∀ (j : Nat) t v, Try.f3.params[j]? = some t → args[j]? = some v → Value.okWide Try.prog W .any base t v := hval0
  have hW' := hW
  obtain ⟨p, q, hA0, hV, rfl, hfz, hnd⟩ := hW
  have hA : DataW.TrodAll enc Try.prog W 0 (fun _ => true) true Try.f3.params.toList args.toList ds p := hA0
  have hk := hA
  have hlt : ∀ x ∈ p, x.block < W.heap.size := fun x hx => hW'.lt x (List.mem_append.2 (.inl hx))
  rw [Try.params3] at hA hval hk
  obtain ⟨v0, vs0, d0, ds0, p0, q0, hargs, rfl, rfl, h0, r0⟩ := trodAll_cons hA
  obtain ⟨rfl, rfl, rfl⟩ := trodAll_nil r0
  obtain rfl : args = #[v0] := by cases args; simp_all
  obtain ⟨rfl, rfl⟩ := trodVars_none hV
  obtain ⟨l0, rd0, m0, b0⟩ := rd_ints Try.underlying22 Try.underlying3 (by kernel_rfl) (hval 0 22 v0 rfl rfl) h0 (light_of (j := 0) hsz rfl rfl)
  have len0 : l0.length ≤ 140737488351232 := by
    have h := m0
    rw [show Try.prog.bytesOf 3 = 8 from by kernel_rfl] at h
    have hr : reachBytes = 140737488351232 := rfl
    omega
  refine (busOrder_any v0 l0 W len0 rd0).mono fun e W' ⟨he, g⟩ => ?_
  subst he
  have bel := g.below
  exact ⟨_, rfl, _, _, _, [], _, [], hW', trodAll_mk1 (shut_bool Try.underlying4 _), all_below laid bel _ _ _ _ (all_rows (by kernel_rfl)) hk hlt (fun x hx => by simpa using hlt x hx), rfl, bel.frame _, fun h => by cases h⟩
theorem over : Rows.busOrderRow.holds Try.pinned (OpenSpec.ofChange Rows.busOrderSpec) :=
  OpenClaim.holds_of_wide 3 Try.f3 rfl rfl rfl rfl rfl rfl rfl ⟨rfl, rfl, rfl, rfl, rfl⟩ rfl rfl rfl rfl rfl (by kernel_rfl) Try.func3 (by kernel_rfl)
    (of_decide_eq_true (by kernel_rfl)) (by unfold Func.isWrapper; first | (rw [if_pos (by decide +kernel)]; kernel_rfl) | (rw [if_neg (by decide +kernel)]; exact ⟨rfl, rfl⟩))
    (fun os started H enc _ => lifted os started H enc)
/-- The statement. -/
theorem proved : Rows.BusOrderSaid := over
end busOrder
end Go.Proofs.Ytfddplpljjlgiaa
