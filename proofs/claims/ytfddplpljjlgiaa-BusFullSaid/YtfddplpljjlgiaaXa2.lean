/- The statement's proof, part 2: what its walks and its plain laws need. -/
import Derived.Test.YtfddplpljjlgiaaRows
import Derived.Tactics
import Derived.Deep.Quiet
import Derived.StillTail
import Derived.Laws.World
import Derived.Laws.Sem
import Derived.Laws.Entries
import Derived.Below
import Derived.Deep.LoopGhost
import Derived.Laws.BytesString
import Derived.Laws.IdiomStrings
import Derived.KernelRfl
import Derived.Carry
import Derived.OpenShut
import Derived.ProofKit
import Derived.ChangeSame
import Derived.HandedShaped
import Derived.SizedLaws
import Derived.Test.YtfddplpljjlgiaaProg
import Derived.Laws.Strings
import Derived.Test.YtfddplpljjlgiaaXa1
namespace Go.Proofs.Ytfddplpljjlgiaa
open Go Go.RowKit Fw
open Bs
set_option linter.unusedVariables false
set_option linter.unusedSimpArgs false
set_option maxRecDepth 20000 in
set_option maxHeartbeats 2000000 in
theorem qpush_any (b : Nat) (qv c : Value) (l : List Bs.W) (x : Bs.W) (w : World) (hx : x.dv.oneCell' = true) (hll : l.length ≤ 100000) (hb : w.heap[b]? = some (.cells (List.toArray [qv, c]) 52)) (hv : Own w qv 57 3 (Bs.wflat l)) (hbv : b ∉ blkOf qv) : Calls Try.prog 66 #[.pointer (some ⟨b, 0, none⟩), .iface 57 (.agg (List.toArray [.int .i64 x.id, x.dv, .int .i64 x.came]))] w (Post (ι := Value) w (b :: blkOf qv) (fun _ => True) (fun _ => .tuple #[]) (fun v => [(0, .blk (b) (.cells ([v, c]).toArray 52)), (1, .own (v) 57 3 (Bs.wflat (l ++ [x])))])) := by
  refine calls_at (vs := [.pointer (some ⟨b, 0, none⟩), .iface 57 (.agg (List.toArray [.int .i64 x.id, x.dv, .int .i64 x.came]))]) (X := b :: blkOf qv) (H := [(0, .blk (b) (.cells ([qv, c]).toArray 52)), (1, .own (qv) 57 3 (Bs.wflat (l)))]) (F := []) 20 Try.func66 rfl rfl rfl (Sat.two 0 1 (by decide) hb hv hbv) ?_
  refine cd_seq ?_
  refine cd_region ?_
  refine st (ev_move rfl) rfl rfl rfl ?_
  refine st (ev_assert Try.underlying57 rfl rfl) rfl rfl rfl ?_
  refine st (ev_move rfl) rfl rfl rfl ?_
  refine st (ev_extract rfl rfl) rfl rfl rfl ?_
  refine st (ev_extract rfl rfl) rfl rfl rfl ?_
  refine st_alloc (h := 4) ty57 rfl rfl rfl (fun b4 => ?_)
  refine st_store_all 4 ty57 rfl rfl rfl rfl rfl (by intro u0 hu0; simp only [List.mem_cons, List.not_mem_nil, or_false] at hu0; rcases hu0 with rfl | rfl | rfl; rfl; exact hx; rfl) rfl rfl ?_
  refine st (ev_assign rfl) rfl rfl rfl ?_
  refine op_nil ?_
  refine ax_then ?_
  refine At.regs (L' := [(0, _), (4, _), (5, _)]) (.cons rfl (.cons rfl (.cons rfl (.nil _)))) ?_
  refine cd_seq ?_
  refine cd_region ?_
  refine st (ev_move rfl) rfl rfl rfl ?_
  refine op_nil ?_
  refine ax_then ?_
  refine At.regs (L' := [(0, _), (4, _), (11, _)]) (.cons rfl (.cons rfl (.cons rfl (.nil _)))) ?_
  refine cd_true rfl ?_
  refine at_freeze_blk (h := 4) (H' := [(0, _), (1, _)]) 4 rfl (.cons rfl (.cons rfl (.nil _))) rfl ?_
  refine cd_mix hmix ?_
  refine mx (i := 0) rfl (by decide +kernel) (by decide +kernel) (by decide +kernel) rfl (fun w0 => ev_move rfl) rfl rfl (Sub.refl _) ?_
  refine mx (i := 1) rfl (by decide +kernel) (by decide +kernel) (by decide +kernel) rfl (fun w0 => ev_move rfl) rfl rfl (Sub.refl _) ?_
  refine mx (i := 2) rfl (by decide +kernel) (by decide +kernel) (by decide +kernel) rfl (fun w0 => ev_nilCheck rfl) rfl rfl (Sub.refl _) ?_
  refine mx (i := 4) rfl (by decide +kernel) (by decide +kernel) (by decide +kernel) rfl (fun w0 => ld_mem_all (h := 4) ty57 rfl rfl rfl rfl) rfl rfl (Sub.refl _) ?_
  refine mx_two (i := 3) (j := 5) (by decide +kernel) (Sub.refl _) ?_ ?_
  ·
    refine wo (i := 3) rfl ?_
    refine st (ld_blk1 (h := 0) ty50 rfl rfl rfl rfl) rfl rfl rfl ?_
    refine op_nil ?_
    refine ax_then ?_
    refine mx_one (i := 5) (by decide +kernel) (Sub.refl _) ?_
    refine wo (i := 5) rfl ?_
    refine st_bs1 (h := 17) (cs := Bs.wcells x) Try.underlying50 ty57 rfl rfl rfl (by decide) (by decide) rfl rfl (fun b17 => ?_)
    refine op_nil ?_
    refine ax_then ?_
    refine mx_one (i := 6) (by decide +kernel) (Sub.refl _) ?_
    refine wo (i := 6) rfl ?_
    refine st_append (n := l.length) (m := 1) (h := 1) (cs := Bs.wcells x) Try.underlying50 Try.underlying50 ty57 rfl rfl rfl rfl (fun w1 sw => sw.own_rd (h := 17) rfl) (by decide) (Bs.wflat_len l) rfl (by omega) (by decide) (Bs.wcells_one hx) rfl rfl (fun v18 => ?_)
    refine at_heq (i := 1) (v' := .own (v18) 57 3 (Bs.wflat (l ++ [x]))) rfl (by rw [Bs.wflat_snoc]) ?_
    refine at_own_shape (h := 1) rfl (fun hs18 => ?_)
    refine op_nil ?_
    refine ax_then ?_
    refine mx (i := 7) rfl (by decide +kernel) (by decide +kernel) (by decide +kernel) rfl (fun w0 => ev_nilCheck rfl) rfl rfl (Sub.refl _) ?_
    refine mx_one (i := 8) (by decide +kernel) (Sub.refl _) ?_
    refine wo (i := 8) rfl ?_
    refine st_store1 0 ty50 rfl rfl rfl hs18.2 (show 0 < 2 from by decide) rfl ?_
    refine at_heq (i := 0) (v' := .blk (b) (.cells ([v18, c]).toArray 52)) rfl rfl ?_
    refine op_nil ?_
    refine ax_then ?_
    refine mx_done (by decide +kernel) (Sub.refl _) ?_
    refine rt_none (.inr rfl) Try.results66 ?_
    exact fun w1 sw => ⟨v18, trivial, rfl, sw.gives (N := [(0, _), (1, _)]) (.cons rfl (.cons rfl (.nil _)))⟩
  ·
    refine wo (i := 5) rfl ?_
    refine st_bs1 (h := 17) (cs := Bs.wcells x) Try.underlying50 ty57 rfl rfl rfl (by decide) (by decide) rfl rfl (fun b17 => ?_)
    refine op_nil ?_
    refine ax_then ?_
    refine mx_one (i := 3) (by decide +kernel) (Sub.refl _) ?_
    refine wo (i := 3) rfl ?_
    refine st (ld_blk1 (h := 0) ty50 rfl rfl rfl rfl) rfl rfl rfl ?_
    refine op_nil ?_
    refine ax_then ?_
    refine mx_one (i := 6) (by decide +kernel) (Sub.refl _) ?_
    refine wo (i := 6) rfl ?_
    refine st_append (n := l.length) (m := 1) (h := 1) (cs := Bs.wcells x) Try.underlying50 Try.underlying50 ty57 rfl rfl rfl rfl (fun w1 sw => sw.own_rd (h := 17) rfl) (by decide) (Bs.wflat_len l) rfl (by omega) (by decide) (Bs.wcells_one hx) rfl rfl (fun v18 => ?_)
    refine at_heq (i := 1) (v' := .own (v18) 57 3 (Bs.wflat (l ++ [x]))) rfl (by rw [Bs.wflat_snoc]) ?_
    refine at_own_shape (h := 1) rfl (fun hs18 => ?_)
    refine op_nil ?_
    refine ax_then ?_
    refine mx (i := 7) rfl (by decide +kernel) (by decide +kernel) (by decide +kernel) rfl (fun w0 => ev_nilCheck rfl) rfl rfl (Sub.refl _) ?_
    refine mx_one (i := 8) (by decide +kernel) (Sub.refl _) ?_
    refine wo (i := 8) rfl ?_
    refine st_store1 0 ty50 rfl rfl rfl hs18.2 (show 0 < 2 from by decide) rfl ?_
    refine at_heq (i := 0) (v' := .blk (b) (.cells ([v18, c]).toArray 52)) rfl rfl ?_
    refine op_nil ?_
    refine ax_then ?_
    refine mx_done (by decide +kernel) (Sub.refl _) ?_
    refine rt_none (.inr rfl) Try.results66 ?_
    exact fun w1 sw => ⟨v18, trivial, rfl, sw.gives (N := [(0, _), (1, _)]) (.cons rfl (.cons rfl (.nil _)))⟩
set_option maxRecDepth 20000 in
set_option maxHeartbeats 2000000 in
theorem qpop_any (b : Nat) (qv c : Value) (l : List Bs.W) (w : World) (hpos : 0 < l.length) (hll : l.length ≤ 100000) (ho : ∀ x, x ∈ l → x.dv.oneCell' = true) (hb : w.heap[b]? = some (.cells (List.toArray [qv, c]) 52)) (hv : Own w qv 57 3 (Bs.wflat l)) (hbv : b ∉ blkOf qv) : Calls Try.prog 65 #[.pointer (some ⟨b, 0, none⟩)] w (Post (ι := Unit) w (b :: blkOf qv) (fun _ => True) (fun _ => .iface 57 (.agg (List.toArray [.int .i64 (l.getD (l.length - 1) Bs.w0).id, (l.getD (l.length - 1) Bs.w0).dv, .int .i64 (l.getD (l.length - 1) Bs.w0).came]))) (fun _ => [(0, .blk (b) (.cells ([(cutAt 3 qv 0 (l.length - 1)), c]).toArray 52)), (1, .own ((cutAt 3 qv 0 (l.length - 1))) 57 3 (Bs.wflat ((l.take (l.length - 1)))))])) := by
  refine calls_at (vs := [.pointer (some ⟨b, 0, none⟩)]) (X := b :: blkOf qv) (H := [(0, .blk (b) (.cells ([qv, c]).toArray 52)), (1, .own (qv) 57 3 (Bs.wflat (l)))]) (F := []) 25 Try.func65 rfl rfl rfl (Sat.two 0 1 (by decide) hb hv hbv) ?_
  refine cd_seq ?_
  refine cd_region ?_
  refine st (ev_assign rfl) rfl rfl rfl ?_
  refine op_nil ?_
  refine ax_then ?_
  refine At.regs (L' := [(0, _), (2, _)]) (.cons rfl (.cons rfl (.nil _))) ?_
  refine cd_seq ?_
  refine cd_region ?_
  refine st (ev_move rfl) rfl rfl rfl ?_
  refine st (ev_nilCheck rfl) rfl rfl rfl ?_
  refine st (ld_blk1 (h := 0) ty50 rfl rfl rfl rfl) rfl rfl rfl ?_
  refine st (ev_len_own (h := 1) (n := l.length) Try.underlying50 rfl rfl (Bs.wflat_len l) (by decide)) rfl rfl rfl ?_
  refine st (ev_sub64 rfl rfl (by omega) (by omega)) rfl rfl rfl ?_
  refine st (ev_assign rfl) rfl rfl rfl ?_
  refine op_nil ?_
  refine ax_then ?_
  refine At.regs (L' := [(0, _), (2, _), (3, _)]) (.cons rfl (.cons rfl (.cons rfl (.nil _)))) ?_
  refine cd_seq ?_
  refine cd_region ?_
  refine st (ev_move rfl) rfl rfl rfl ?_
  refine st (ev_nilCheck rfl) rfl rfl rfl ?_
  refine st (ld_blk1 (h := 0) ty50 rfl rfl rfl rfl) rfl rfl rfl ?_
  refine st (ev_move rfl) rfl rfl rfl ?_
  refine st (ev_indexAddr_own (h := 1) (n := l.length) Try.underlying50 ty57 rfl rfl rfl (Bs.wflat_len l) (by decide) (by omega) (by omega)) rfl rfl rfl ?_
  refine st (ld_own (k := ((l.length : Int) - 1).toNat * 3) (h := 1) ty57 rfl rfl rfl (by decide) (by rw [Bs.wflat_len]; omega)) rfl rfl rfl ?_
  refine at_eq (i := 15) (v' := .agg (List.toArray [.int .i64 (l.getD (l.length - 1) Bs.w0).id, (l.getD (l.length - 1) Bs.w0).dv, .int .i64 (l.getD (l.length - 1) Bs.w0).came])) rfl (congrArg (fun x => Value.agg (List.toArray x)) (by rw [show ((l.length : Int) - 1).toNat = l.length - 1 by omega]; exact Bs.wflat_get (by omega))) ?_
  refine st_alloc (h := 4) ty57 rfl rfl rfl (fun b4 => ?_)
  refine st_store_all 4 ty57 rfl rfl rfl rfl rfl (by intro u0 hu0; simp only [List.mem_cons, List.not_mem_nil, or_false] at hu0; rcases hu0 with rfl | rfl | rfl; rfl; exact (ho _ (Bs.getD_mem (by omega))); rfl) rfl rfl ?_
  refine op_nil ?_
  refine ax_then ?_
  refine At.regs (L' := [(0, _), (2, _), (3, _), (4, _)]) (.cons rfl (.cons rfl (.cons rfl (.cons rfl (.nil _))))) ?_
  refine cd_seq ?_
  refine cd_region ?_
  refine st (ev_move rfl) rfl rfl rfl ?_
  refine st (ev_move rfl) rfl rfl rfl ?_
  refine st (ev_nilCheck rfl) rfl rfl rfl ?_
  refine st (ld_blk1 (h := 0) ty50 rfl rfl rfl rfl) rfl rfl rfl ?_
  refine st (ev_move rfl) rfl rfl rfl ?_
  refine st (ev_slice_rd_hi (n := l.length) Try.underlying50 ty57 rfl rfl (fun w1 sw => sw.own_rd (h := 1) rfl) (by decide) (Bs.wflat_len l) (by omega) (by omega)) rfl rfl rfl ?_
  refine at_eq (i := 21) (v' := (cutAt 3 qv 0 (l.length - 1))) rfl (by rw [show ((l.length : Int) - 1).toNat = l.length - 1 by omega]) ?_
  refine at_own_take (h := 1) (n := l.length) (hi := l.length - 1) rfl (by decide) (Bs.wflat_len l) (by omega) ?_
  refine at_heq (i := 1) (v' := .own ((cutAt 3 qv 0 (l.length - 1))) 57 3 (Bs.wflat ((l.take (l.length - 1))))) rfl (by rw [Bs.wflat_take l (by omega)]) ?_
  refine at_own_shape (h := 1) rfl (fun hs1 => ?_)
  refine st (ev_nilCheck rfl) rfl rfl rfl ?_
  refine st_store1 0 ty50 rfl rfl rfl hs1.2 (show 0 < 2 from by decide) rfl ?_
  refine at_heq (i := 0) (v' := .blk (b) (.cells ([(cutAt 3 qv 0 (l.length - 1)), c]).toArray 52)) rfl rfl ?_
  refine op_nil ?_
  refine ax_then ?_
  refine At.regs (L' := [(2, _), (4, _)]) (.cons rfl (.cons rfl (.nil _))) ?_
  refine cd_seq ?_
  refine cd_region ?_
  refine st (ld_blk_all (h := 4) ty57 rfl rfl rfl rfl) rfl rfl rfl ?_
  refine st (ev_mkif Try.underlying57 rfl rfl) rfl rfl rfl ?_
  refine st (ev_assign rfl) rfl rfl rfl ?_
  refine op_nil ?_
  refine ax_then ?_
  refine At.regs (L' := [(2, _)]) (.cons rfl (.nil _)) ?_
  refine cd_ret ?_
  refine rt_tmp (.inl rfl) Try.results65 rfl ?_
  exact fun w1 sw => ⟨(), trivial, rfl, sw.gives (N := [(0, _), (1, _)]) (.cons rfl (.cons rfl (.nil _)))⟩
set_option maxRecDepth 20000 in
set_option maxHeartbeats 2000000 in
theorem hpush_any (b : Nat) (qv c : Value) (l : List Bs.W) (x : Bs.W) (w : World) (hx : x.dv.oneCell' = true) (hll : l.length ≤ 100000) (ho : ∀ x, x ∈ l → x.dv.oneCell' = true) (hb : w.heap[b]? = some (.cells (List.toArray [qv, c]) 52)) (hv : Own w qv 57 3 (Bs.wflat l)) (hbv : b ∉ blkOf qv) : Calls Try.prog 17 #[.iface 54 (.pointer (some ⟨b, 0, none⟩)), .iface 57 (.agg (List.toArray [.int .i64 x.id, x.dv, .int .i64 x.came]))] w (Post (ι := Value) w (b :: blkOf qv) (fun _ => True) (fun _ => .tuple #[]) (fun v => [(0, .blk (b) (.cells ([v, c]).toArray 52)), (1, .own (v) 57 3 (Bs.wflat (Bs.upS (l ++ [x]) l.length)))])) := by
  have hl1 : (l ++ [x]).length = l.length + 1 := by simp
  have ho1 : ∀ y, y ∈ l ++ [x] → y.dv.oneCell' = true := fun y hy => (List.mem_append.1 hy).elim (ho y) (fun h => by rw [List.mem_singleton.1 h]; exact hx)
  refine calls_at (vs := [.iface 54 (.pointer (some ⟨b, 0, none⟩)), .iface 57 (.agg (List.toArray [.int .i64 x.id, x.dv, .int .i64 x.came]))]) (X := b :: blkOf qv) (H := [(0, .blk (b) (.cells ([qv, c]).toArray 52)), (1, .own (qv) 57 3 (Bs.wflat (l)))]) (F := []) 12 Try.func17 rfl rfl rfl (Sat.two 0 1 (by decide) hb hv hbv) ?_
  refine cd_seq ?_
  refine cd_region ?_
  refine st (ev_move rfl) rfl rfl rfl ?_
  refine st (ev_move rfl) rfl rfl rfl ?_
  refine st_inv invPush rfl rfl (fun w1 sw => qpush_any b qv c l x w1 hx hll (sw.blk_eq (h := 0) rfl) (sw.hold 1 _ rfl) (sw.apart 0 _ 1 _ rfl rfl (by decide) _ (by simp [Ent.ids]))) (mod_two rfl rfl) rfl rfl (fun v6 _ => ?_)
  refine op_nil ?_
  refine ax_then ?_
  refine At.regs (L' := [(0, _)]) (.cons rfl (.nil _)) ?_
  refine cd_region ?_
  refine st (ev_move rfl) rfl rfl rfl ?_
  refine st (ev_move rfl) rfl rfl rfl ?_
  refine st_invv invLen rfl rfl (fun w1 sw => qlen_any b v6 c (l ++ [x]) w1 (lies_blk (sw.blk_eq (h := 0) rfl)) (sw.own_rd (h := 1) rfl)) rfl rfl ?_
  refine st (ev_sub64 rfl rfl (by omega) (by omega)) rfl rfl rfl ?_
  refine at_eq (i := 10) (v' := .int .i64 (l.length : Nat)) rfl (congrArg (Value.int .i64) (by omega)) ?_
  refine st_call has25 rfl (fun w1 sw => up_any b v6 c (l ++ [x]) l.length w1 (by omega) (by omega) ho1 (sw.blk_eq (h := 0) rfl) (sw.hold 1 _ rfl) (sw.apart 0 _ 1 _ rfl rfl (by decide) _ (by simp [Ent.ids]))) (mod_two rfl rfl) rfl rfl (fun _ _ => ?_)
  refine op_nil ?_
  refine rt_none (.inr rfl) Try.results17 ?_
  exact fun w1 sw => ⟨v6, trivial, rfl, sw.gives (N := [(0, _), (1, _)]) (.cons rfl (.cons rfl (.nil _)))⟩
set_option maxRecDepth 20000 in
set_option maxHeartbeats 2000000 in
theorem hpop_any (b : Nat) (qv c : Value) (l : List Bs.W) (w : World) (hpos : 0 < l.length) (hll : l.length ≤ 100000) (ho : ∀ x, x ∈ l → x.dv.oneCell' = true) (hb : w.heap[b]? = some (.cells (List.toArray [qv, c]) 52)) (hv : Own w qv 57 3 (Bs.wflat l)) (hbv : b ∉ blkOf qv) : Calls Try.prog 19 #[.iface 54 (.pointer (some ⟨b, 0, none⟩))] w (Post (ι := Unit) w (b :: blkOf qv) (fun _ => True) (fun _ => .iface 57 (.agg (List.toArray [.int .i64 ((Bs.downS (Bs.swapS l 0 (l.length - 1)) 0 (l.length - 1)).getD (l.length - 1) Bs.w0).id, ((Bs.downS (Bs.swapS l 0 (l.length - 1)) 0 (l.length - 1)).getD (l.length - 1) Bs.w0).dv, .int .i64 ((Bs.downS (Bs.swapS l 0 (l.length - 1)) 0 (l.length - 1)).getD (l.length - 1) Bs.w0).came]))) (fun _ => [(0, .blk (b) (.cells ([(cutAt 3 qv 0 (l.length - 1)), c]).toArray 52)), (1, .own ((cutAt 3 qv 0 (l.length - 1))) 57 3 (Bs.wflat ((Bs.downS (Bs.swapS l 0 (l.length - 1)) 0 (l.length - 1)).take (l.length - 1))))])) := by
  have hs1 := Bs.swapS_len l 0 (l.length - 1)
  have ho1 := Bs.swapS_one ho (i := 0) (k := (l.length - 1)) (by omega) (by omega)
  have hd1 := Bs.downS_len (Bs.swapS l 0 (l.length - 1)) 0 (l.length - 1)
  have ho2 := Bs.downS_one ho1 0 (l.length - 1) (by omega)
  refine calls_at (vs := [.iface 54 (.pointer (some ⟨b, 0, none⟩))]) (X := b :: blkOf qv) (H := [(0, .blk (b) (.cells ([qv, c]).toArray 52)), (1, .own (qv) 57 3 (Bs.wflat (l)))]) (F := []) 15 Try.func19 rfl rfl rfl (Sat.two 0 1 (by decide) hb hv hbv) ?_
  refine cd_seq ?_
  refine cd_region ?_
  refine st (ev_assign rfl) rfl rfl rfl ?_
  refine op_nil ?_
  refine ax_then ?_
  refine At.regs (L' := [(0, _), (2, _)]) (.cons rfl (.cons rfl (.nil _))) ?_
  refine cd_seq ?_
  refine cd_region ?_
  refine st (ev_move rfl) rfl rfl rfl ?_
  refine st_invv invLen rfl rfl (fun w1 sw => qlen_any b qv c l w1 (lies_blk (sw.blk_eq (h := 0) rfl)) (sw.own_rd (h := 1) rfl)) rfl rfl ?_
  refine st (ev_sub64 rfl rfl (by omega) (by omega)) rfl rfl rfl ?_
  refine at_eq (i := 6) (v' := .int .i64 ((l.length - 1) : Nat)) rfl (congrArg (Value.int .i64) (by omega)) ?_
  refine st (ev_assign rfl) rfl rfl rfl ?_
  refine op_nil ?_
  refine ax_then ?_
  refine At.regs (L' := [(0, _), (2, _), (3, _)]) (.cons rfl (.cons rfl (.cons rfl (.nil _)))) ?_
  refine cd_seq ?_
  refine cd_region ?_
  refine st (ev_move rfl) rfl rfl rfl ?_
  refine st (ev_move rfl) rfl rfl rfl ?_
  refine st_inv invSwap rfl rfl (fun w1 sw => qswap_any b qv c l 0 (l.length - 1) w1 (by omega) (by omega) ho (sw.blk_eq (h := 0) rfl) (sw.hold 1 _ rfl) (sw.apart 0 _ 1 _ rfl rfl (by decide) _ (by simp [Ent.ids]))) (mod_two rfl rfl) rfl rfl (fun _ _ => ?_)
  refine op_nil ?_
  refine ax_then ?_
  refine At.regs (L' := [(0, _), (2, _), (3, _)]) (.cons rfl (.cons rfl (.cons rfl (.nil _)))) ?_
  refine cd_seq ?_
  refine cd_region ?_
  refine st (ev_move rfl) rfl rfl rfl ?_
  refine st (ev_move rfl) rfl rfl rfl ?_
  refine st_call has27 rfl (fun w1 sw => down_any b qv c (Bs.swapS l 0 (l.length - 1)) 0 (l.length - 1) w1 (by omega) (by omega) (by omega) ho1 (sw.blk_eq (h := 0) rfl) (sw.hold 1 _ rfl) (sw.apart 0 _ 1 _ rfl rfl (by decide) _ (by simp [Ent.ids]))) (mod_two rfl rfl) rfl rfl (fun x12 _ => ?_)
  refine op_nil ?_
  refine ax_then ?_
  refine At.regs (L' := [(0, _), (2, _)]) (.cons rfl (.cons rfl (.nil _))) ?_
  refine cd_seq ?_
  refine cd_region ?_
  refine st (ev_move rfl) rfl rfl rfl ?_
  refine st_inv invPop rfl rfl (fun w1 sw => qpop_any b qv c (Bs.downS (Bs.swapS l 0 (l.length - 1)) 0 (l.length - 1)) w1 (by omega) (by omega) ho2 (sw.blk_eq (h := 0) rfl) (sw.hold 1 _ rfl) (sw.apart 0 _ 1 _ rfl rfl (by decide) _ (by simp [Ent.ids]))) (mod_two rfl rfl) rfl rfl (fun _ _ => ?_)
  refine at_eq (i := 14) (v' := .iface 57 (.agg (List.toArray [.int .i64 ((Bs.downS (Bs.swapS l 0 (l.length - 1)) 0 (l.length - 1)).getD (l.length - 1) Bs.w0).id, ((Bs.downS (Bs.swapS l 0 (l.length - 1)) 0 (l.length - 1)).getD (l.length - 1) Bs.w0).dv, .int .i64 ((Bs.downS (Bs.swapS l 0 (l.length - 1)) 0 (l.length - 1)).getD (l.length - 1) Bs.w0).came]))) rfl (by rw [hd1, hs1]) ?_
  refine at_heq (i := 0) (v' := .blk (b) (.cells ([(cutAt 3 qv 0 (l.length - 1)), c]).toArray 52)) rfl (by rw [hd1, hs1]) ?_
  refine at_heq (i := 1) (v' := .own ((cutAt 3 qv 0 (l.length - 1))) 57 3 (Bs.wflat ((Bs.downS (Bs.swapS l 0 (l.length - 1)) 0 (l.length - 1)).take (l.length - 1)))) rfl (by rw [hd1, hs1]) ?_
  refine st (ev_assign rfl) rfl rfl rfl ?_
  refine op_nil ?_
  refine ax_then ?_
  refine At.regs (L' := [(2, _)]) (.cons rfl (.nil _)) ?_
  refine cd_ret ?_
  refine rt_tmp (.inl rfl) Try.results19 rfl ?_
  exact fun w1 sw => ⟨(), trivial, rfl, sw.gives (N := [(0, _), (1, _)]) (.cons rfl (.cons rfl (.nil _)))⟩
end Go.Proofs.Ytfddplpljjlgiaa

namespace Go.Proofs.Ytfddplpljjlgiaa
open Go Go.RowKit Fw
open Bs
set_option linter.unusedVariables false
set_option linter.unusedSimpArgs false
set_option maxRecDepth 20000 in
set_option maxHeartbeats 1000000 in
theorem clone_nil (w : World) : Calls Try.prog 26 #[.slice none 0 0] w (Post (ι := Value) w [] (fun _ => True) (fun v => v) (fun v => [(0, .own (v) 5 1 (ints .u8 ([])))])) := by
  refine calls_at (vs := [.slice none 0 0]) (X := []) (H := []) (F := []) 8 Try.func26 rfl rfl rfl (Sat.start0 w) ?_
  refine cd_seq ?_
  refine cd_region ?_
  refine st (ev_assign rfl) rfl rfl rfl ?_
  refine at_own_nil 2 5 1 ?_
  refine at_heq (i := 2) (v' := .own (.slice none 0 0) 5 1 (ints .u8 [])) rfl rfl ?_
  refine op_nil ?_
  refine ax_then ?_
  refine At.regs (L' := [(0, _), (2, _)]) (.cons rfl (.cons rfl (.nil _))) ?_
  refine cd_seq ?_
  refine cd_seq ?_
  refine cd_region ?_
  refine st (ev_move rfl) rfl rfl rfl ?_
  refine st (ev_eql_slice_nil Try.underlying27 rfl rfl) rfl rfl rfl ?_
  refine op_nil ?_
  refine ax_then ?_
  refine At.regs (L' := [(0, _), (2, _), (4, _)]) (.cons rfl (.cons rfl (.cons rfl (.nil _)))) ?_
  refine cd_true rfl ?_
  refine cd_seq ?_
  refine cd_region ?_
  refine st (ev_assign rfl) rfl rfl rfl ?_
  refine at_own_nil 2 5 1 ?_
  refine at_heq (i := 2) (v' := .own (.slice none 0 0) 5 1 (ints .u8 [])) rfl rfl ?_
  refine op_nil ?_
  refine ax_then ?_
  refine At.regs (L' := [(0, _), (2, _)]) (.cons rfl (.cons rfl (.nil _))) ?_
  refine cd_ret ?_
  refine ax_then_ret ?_
  refine rt_tmp (.inl rfl) Try.results26 rfl ?_
  exact fun w1 sw => ⟨_, trivial, rfl, (sw.gives (N := [(2, _)]) (.cons rfl (.nil _))).rn 0⟩
set_option maxRecDepth 20000 in
set_option maxHeartbeats 1000000 in
theorem clone_some (x : Addr) (n c : Nat) (l : List Int) (w : World) (hl : l.length ≤ 140737488352000) (h : Rd w (.slice (some x) n c) 1 (ints .u8 l)) : Calls Try.prog 26 #[.slice (some x) n c] w (Post (ι := Value) w [] (fun _ => True) (fun v => v) (fun v => [(0, .own (v) 5 1 (ints .u8 (l)))])) := by
  refine calls_at (vs := [.slice (some x) n c]) (X := []) (H := []) (F := [(0, .sl (.slice (some x) n c) 1 (ints .u8 (l)))]) 8 Try.func26 rfl rfl rfl (Sat.rd0 0 h) ?_
  refine cd_seq ?_
  refine cd_region ?_
  refine st (ev_assign rfl) rfl rfl rfl ?_
  refine at_own_nil 2 5 1 ?_
  refine at_heq (i := 2) (v' := .own (.slice none 0 0) 5 1 (ints .u8 [])) rfl rfl ?_
  refine op_nil ?_
  refine ax_then ?_
  refine At.regs (L' := [(0, _), (2, _)]) (.cons rfl (.cons rfl (.nil _))) ?_
  refine cd_seq ?_
  refine cd_seq ?_
  refine cd_region ?_
  refine st (ev_move rfl) rfl rfl rfl ?_
  refine st (ev_eql_slice_nil Try.underlying27 rfl rfl) rfl rfl rfl ?_
  refine op_nil ?_
  refine ax_then ?_
  refine At.regs (L' := [(0, _), (2, _), (4, _)]) (.cons rfl (.cons rfl (.cons rfl (.nil _)))) ?_
  refine cd_false rfl ?_
  refine cd_skip ?_
  refine ax_then ?_
  refine At.regs (L' := [(0, _), (2, _)]) (.cons rfl (.cons rfl (.nil _))) ?_
  refine cd_seq ?_
  refine cd_region ?_
  refine st_bsi (h := 5) (xs := []) Try.underlying27 ty5 (by decide) rfl rfl (by decide) rfl rfl (fun b5 => ?_)
  refine st (ev_move rfl) rfl rfl rfl ?_
  refine st_appendi (h := 5) Try.underlying27 Try.underlying27 ty5 rfl rfl rfl rfl (fun w1 sw => sw.sl_rd (h := 0) rfl) (by first | omega | (simp only [List.length_append, List.length_cons, List.length_nil, List.length_set, List.length_replicate, List.length_take, List.length_drop, ints_length, wr_length] <;> omega)) (by decide) rfl rfl (fun v7 => ?_)
  refine at_heq (i := 5) (v' := .own (v7) 5 1 (ints .u8 (l))) rfl (by rw [List.nil_append]) ?_
  refine st (ev_assign rfl) rfl rfl rfl ?_
  refine op_nil ?_
  refine ax_then ?_
  refine At.regs (L' := [(2, _)]) (.cons rfl (.nil _)) ?_
  refine cd_ret ?_
  refine rt_tmp (.inl rfl) Try.results26 rfl ?_
  exact fun w1 sw => ⟨_, trivial, rfl, (sw.gives (N := [(5, _)]) (.cons rfl (.nil _))).rn 0⟩
theorem clone_any (p : Value) (l : List Int) (w : World) (hl : l.length ≤ 140737488352000) (h : Rd w p 1 (ints .u8 l)) : Calls Try.prog 26 #[p] w (Post (ι := Value) w [] (fun _ => True) (fun v => v) (fun v => [(0, .own (v) 5 1 (ints .u8 (l)))])) := by
  have h' := h
  obtain ⟨a, len, cap, rfl, h1, h2, h3, h4⟩ := h
  cases a with
  | some x => exact clone_some x len cap l w hl h'
  | none =>
    have hc := h3 rfl
    have hn : len = 0 := by omega
    subst hc; subst hn
    have : l = [] := List.length_eq_zero_iff.1 (by rw [ints_length] at h1; omega)
    subst this
    exact clone_nil w
set_option maxRecDepth 20000 in
set_option maxHeartbeats 2000000 in
theorem copied_any (id : Int) (dv : Value) (data : List Int) (w : World) (hl : data.length ≤ 140737488352000) (h : Rd w dv 1 (ints .u8 data)) : Calls Try.prog 18 #[.agg (List.toArray [.int .i64 id, dv])] w (Post (ι := Value) w [] (fun _ => True) (fun v => .agg (List.toArray [.int .i64 id, v])) (fun v => [(0, .own (v) 5 1 (ints .u8 (data)))])) := by
  have hsd := rd_shape h
  refine calls_at (vs := [.agg (List.toArray [.int .i64 id, dv])]) (X := []) (H := []) (F := [(20, .sl (dv) 1 (ints .u8 (data)))]) 9 Try.func18 rfl rfl rfl (Sat.rd0 20 h) ?_
  refine cd_seq ?_
  refine cd_region ?_
  refine st_box (h := 1) rfl rfl rfl rfl (fun b1 => ?_)
  refine st_alloc (h := 2) ty29 rfl rfl rfl (fun b2 => ?_)
  refine op_nil ?_
  refine ax_then ?_
  refine At.regs (L' := [(1, _), (2, _)]) (.cons rfl (.cons rfl (.nil _))) ?_
  refine cd_seq ?_
  refine at_freeze_blk (h := 1) (H' := [(2, _)]) 1 rfl (.cons rfl (.nil _)) rfl ?_
  refine cd_mix hmix ?_
  refine mx (i := 0) rfl (by decide +kernel) (by decide +kernel) (by decide +kernel) rfl (fun w0 => ev_fieldAddr (b := _) Try.underlying29 (f := _) rfl ty3 (by decide) rfl) rfl rfl (Sub.refl _) ?_
  refine mx (i := 1) rfl (by decide +kernel) (by decide +kernel) (by decide +kernel) rfl (fun w0 => ld_mem1 (h := 1) ty3 rfl rfl rfl (Nat.zero_add _).symm rfl) rfl rfl (Sub.refl _) ?_
  refine mx (i := 2) rfl (by decide +kernel) (by decide +kernel) (by decide +kernel) rfl (fun w0 => ev_fieldAddr (b := _) Try.underlying29 (f := _) rfl ty27 (by decide) rfl) rfl rfl (Sub.refl _) ?_
  refine mx (i := 3) rfl (by decide +kernel) (by decide +kernel) (by decide +kernel) rfl (fun w0 => ld_mem1 (h := 1) ty27 rfl rfl rfl (Nat.zero_add _).symm rfl) rfl rfl (Sub.refl _) ?_
  refine mx_one (i := 4) (by decide +kernel) (Sub.refl _) ?_
  refine wo (i := 4) rfl ?_
  refine st_call has26 rfl (fun w1 sw => rn 7 (clone_any dv data w1 hl (sw.sl_rd (h := 20) rfl))) nil_all rfl rfl (fun v7 _ => ?_)
  refine at_own_shape (h := 7) rfl (fun hs7 => ?_)
  refine op_nil ?_
  refine ax_then ?_
  refine mx (i := 5) rfl (by decide +kernel) (by decide +kernel) (by decide +kernel) rfl (fun w0 => ev_build_struct ty29 rfl pl29 rfl ((fill_put (i := 0) (off := 0) (n := 1) (vs := [.int .i64 id]) rfl rfl rfl (Nat.le_of_ble_eq_true rfl)).trans ((fill_put (i := 1) (off := 1) (n := 1) (vs := [v7]) rfl hs7.1 rfl (Nat.le_of_ble_eq_true rfl)).trans fill_nil))) rfl rfl (Sub.refl _) ?_
  refine at_eq (i := 8) (v' := .agg (List.toArray [.int .i64 id, v7])) rfl rfl ?_
  refine mx_one (i := 6) (by decide +kernel) (Sub.refl _) ?_
  refine wo (i := 6) rfl ?_
  refine st_store_all 2 ty29 rfl rfl rfl rfl rfl (by intro u0 hu0; simp only [List.mem_cons, List.not_mem_nil, or_false] at hu0; rcases hu0 with rfl | rfl; rfl; exact hs7.2) rfl rfl ?_
  refine op_nil ?_
  refine ax_then ?_
  refine mx_done (by decide +kernel) (Sub.refl _) ?_
  refine ax_then ?_
  refine At.regs (L' := [(2, _)]) (.cons rfl (.nil _)) ?_
  refine cd_ret ?_
  refine rt_cell (h0 := 2) (.inl rfl) Try.results18 ty29 rfl rfl rfl rfl ?_
  exact fun w1 sw => ⟨v7, trivial, rfl, (sw.gives (N := [(7, _)]) (.cons rfl (.nil _))).rn 0⟩
set_option maxRecDepth 20000 in
set_option maxHeartbeats 1000000 in
theorem blen_any (b : Nat) (qv c : Value) (l : List Bs.W) (w : World) (h : Lies w b 0 [qv, c]) (h' : Rd w qv 3 (Bs.wflat l)) : Calls Try.prog 10 #[.pointer (some ⟨b, 0, none⟩)] w (PostV w (.int .i64 (l.length : Nat))) := by
  refine calls_at (vs := [.pointer (some ⟨b, 0, none⟩)]) (X := []) (H := []) (F := [(21, .mem b 0 [qv, c]), (20, .sl (qv) 3 (Bs.wflat (l)))]) 10 Try.func10 rfl rfl rfl ((Sat.rd0 20 h').read (f := .mem b 0 [qv, c]) 21 h off_nil) ?_
  refine cd_seq ?_
  refine cd_region ?_
  refine st (ev_assign rfl) rfl rfl rfl ?_
  refine op_nil ?_
  refine ax_then ?_
  refine At.regs (L' := [(0, _), (2, _)]) (.cons rfl (.cons rfl (.nil _))) ?_
  refine cd_seq ?_
  refine cd_seq ?_
  refine cd_region ?_
  refine st (ev_move rfl) rfl rfl rfl ?_
  refine st (ev_eql_ptr_nil Try.underlying23 rfl rfl) rfl rfl rfl ?_
  refine op_nil ?_
  refine ax_then ?_
  refine At.regs (L' := [(0, _), (2, _), (4, _)]) (.cons rfl (.cons rfl (.cons rfl (.nil _)))) ?_
  refine cd_false rfl ?_
  refine cd_skip ?_
  refine ax_then ?_
  refine At.regs (L' := [(0, _), (2, _)]) (.cons rfl (.cons rfl (.nil _))) ?_
  refine cd_seq ?_
  refine cd_region ?_
  refine st (ev_move rfl) rfl rfl rfl ?_
  refine st (ev_nilCheck rfl) rfl rfl rfl ?_
  refine st (ev_fieldAddr (b := _) Try.underlying52 (f := _) rfl ty50 (by decide) rfl) rfl rfl rfl ?_
  refine st (ld_mem1 (h := 21) ty50 rfl rfl rfl (Nat.zero_add _).symm rfl) rfl rfl rfl ?_
  refine st (ev_len_rd (h := 20) (n := l.length) Try.underlying50 rfl rfl (Bs.wflat_len l) (by decide)) rfl rfl rfl ?_
  refine st (ev_assign rfl) rfl rfl rfl ?_
  refine op_nil ?_
  refine ax_then ?_
  refine At.regs (L' := [(2, _)]) (.cons rfl (.nil _)) ?_
  refine cd_ret ?_
  refine rt_tmp (.inl rfl) Try.results10 rfl ?_
  exact fun w1 sw => ⟨rfl, sw.gives (.nil _)⟩
set_option maxRecDepth 20000 in
set_option maxHeartbeats 4000000 in
theorem send_ok (b : Nat) (qv dv : Value) (l : List Bs.W) (came : Nat) (id : Int) (data : List Int) (w : World) (hid : 0 ≤ id ∧ id ≤ 2047) (hdl : data.length ≤ 8) (hlen : l.length < 64) (hca : came ≤ 1000000) (hll : l.length ≤ 100000) (ho : ∀ x, x ∈ l → x.dv.oneCell' = true) (hb : w.heap[b]? = some (.cells (List.toArray [qv, .int .i64 (came : Nat)]) 52)) (hv : Own w qv 57 3 (Bs.wflat l)) (hbv : b ∉ blkOf qv) (h : Rd w dv 1 (ints .u8 data)) (hof : FE.off b (.sl (dv) 1 (ints .u8 (data)))) (hof2 : ∀ x, x ∈ blkOf qv → FE.off x (.sl (dv) 1 (ints .u8 (data)))) : Calls Try.prog 8 #[.pointer (some ⟨b, 0, none⟩), .agg (List.toArray [.int .i64 id, dv])] w (PostRM (ι := Value × Value) w (b :: blkOf qv) (fun x => x.2.oneCell' = true) (fun _ => .int .i64 0) (fun x => [(0, .blk (b) (.cells ([x.1, .int .i64 ((came + 1 : Nat) : Int)]).toArray 52)), (1, .own (x.1) 57 3 (Bs.wflat (Bs.upS (l ++ [(⟨id, x.2, data, ((came + 1 : Nat) : Int)⟩ : Bs.W)]) l.length)))]) (fun x => [(x.2, 1, ints .u8 data)])) := by
  have hsd := rd_shape h
  refine calls_at (vs := [.pointer (some ⟨b, 0, none⟩), .agg (List.toArray [.int .i64 id, dv])]) (X := b :: blkOf qv) (H := [(0, .blk (b) (.cells ([qv, .int .i64 (came : Nat)]).toArray 52)), (1, .own (qv) 57 3 (Bs.wflat (l)))]) (F := [(2, .sl (dv) 1 (ints .u8 (data)))]) 51 Try.func8 rfl rfl rfl ((Sat.two 0 1 (by decide) hb hv hbv).read2 (f := .sl (dv) 1 (ints .u8 (data))) 2 h hof hof2) ?_
  refine cd_seq ?_
  refine cd_region ?_
  refine st_box (h := 3) rfl rfl rfl rfl (fun b3 => ?_)
  refine st (ev_assign rfl) rfl rfl rfl ?_
  refine op_nil ?_
  refine ax_then ?_
  refine At.regs (L' := [(0, _), (3, _), (4, _)]) (.cons rfl (.cons rfl (.cons rfl (.nil _)))) ?_
  refine cd_seq ?_
  refine cd_block ?_
  refine cd_seq ?_
  refine cd_region ?_
  refine st (ev_move rfl) rfl rfl rfl ?_
  refine st (ev_eql_ptr_nil Try.underlying23 rfl rfl) rfl rfl rfl ?_
  refine st (ev_move rfl) rfl rfl rfl ?_
  refine st (ev_fieldAddr (b := _) Try.underlying29 (f := _) rfl ty3 (by decide) rfl) rfl rfl rfl ?_
  refine st (ld_blk1 (h := 3) ty3 rfl rfl rfl rfl) rfl rfl rfl ?_
  refine st (ev_lss rfl rfl) rfl rfl rfl ?_
  refine st (ev_pick_f rfl rfl) rfl rfl rfl ?_
  refine st (ev_move rfl) rfl rfl rfl ?_
  refine at_eq (i := 13) (v' := .bool false) rfl (by simp only [Value.bool.injEq, decide_eq_true_eq, decide_eq_false_iff_not]; omega) ?_
  refine st (ev_fieldAddr (b := _) Try.underlying29 (f := _) rfl ty3 (by decide) rfl) rfl rfl rfl ?_
  refine st (ld_blk1 (h := 3) ty3 rfl rfl rfl rfl) rfl rfl rfl ?_
  refine st (ev_gtr rfl rfl) rfl rfl rfl ?_
  refine st (ev_pick_f rfl rfl) rfl rfl rfl ?_
  refine st (ev_move rfl) rfl rfl rfl ?_
  refine at_eq (i := 18) (v' := .bool false) rfl (by simp only [Value.bool.injEq, decide_eq_true_eq, decide_eq_false_iff_not]; omega) ?_
  refine st (ev_fieldAddr (b := _) Try.underlying29 (f := _) rfl ty27 (by decide) rfl) rfl rfl rfl ?_
  refine st (ld_blk1 (h := 3) ty27 rfl rfl rfl rfl) rfl rfl rfl ?_
  refine st (ev_len_rdi (h := 2) Try.underlying27 rfl rfl) rfl rfl rfl ?_
  refine st (ev_gtr rfl rfl) rfl rfl rfl ?_
  refine st (ev_pick_f rfl rfl) rfl rfl rfl ?_
  refine st (ev_assign rfl) rfl rfl rfl ?_
  refine op_nil ?_
  refine ax_then ?_
  refine At.regs (L' := [(0, _), (3, _), (4, _), (5, _)]) (.cons rfl (.cons rfl (.cons rfl (.cons rfl (.nil _))))) ?_
  refine cd_if_f rfl (by omega) ?_
  refine cd_seq ?_
  refine cd_region ?_
  refine st (ev_move rfl) rfl rfl rfl ?_
  refine st (ev_nilCheck rfl) rfl rfl rfl ?_
  refine st (ev_fieldAddr (b := _) Try.underlying52 (f := _) rfl ty50 (by decide) rfl) rfl rfl rfl ?_
  refine st (ld_blk1 (h := 0) ty50 rfl rfl rfl rfl) rfl rfl rfl ?_
  refine st (ev_len_own (h := 1) (n := l.length) Try.underlying50 rfl rfl (Bs.wflat_len l) (by decide)) rfl rfl rfl ?_
  refine st (ev_geq rfl rfl) rfl rfl rfl ?_
  refine st (ev_assign rfl) rfl rfl rfl ?_
  refine op_nil ?_
  refine ax_then ?_
  refine At.regs (L' := [(0, _), (3, _), (4, _), (24, _)]) (.cons rfl (.cons rfl (.cons rfl (.cons rfl (.nil _))))) ?_
  refine cd_if_f rfl (by omega) ?_
  refine cd_skip ?_
  refine ax_block ?_
  refine ax_then ?_
  refine At.regs (L' := [(0, _), (3, _), (4, _)]) (.cons rfl (.cons rfl (.cons rfl (.nil _)))) ?_
  refine cd_seq ?_
  refine cd_region ?_
  refine st (ev_move rfl) rfl rfl rfl ?_
  refine st (ev_nilCheck rfl) rfl rfl rfl ?_
  refine st (ev_fieldAddr (b := _) Try.underlying52 (f := _) rfl ty3 (by decide) rfl) rfl rfl rfl ?_
  refine st (ld_blk1 (h := 0) ty3 rfl rfl rfl rfl) rfl rfl rfl ?_
  refine st (ev_add64 rfl rfl (by omega) (by omega)) rfl rfl rfl ?_
  refine st (ev_nilCheck rfl) rfl rfl rfl ?_
  refine st (ev_fieldAddr (b := _) Try.underlying52 (f := _) rfl ty3 (by decide) rfl) rfl rfl rfl ?_
  refine st_store1 0 ty3 rfl rfl rfl rfl (show 1 < 2 from by decide) rfl ?_
  refine at_heq (i := 0) (v' := .blk (b) (.cells ([qv, .int .i64 ((came + 1 : Nat) : Int)]).toArray 52)) rfl rfl ?_
  refine op_nil ?_
  refine ax_then ?_
  refine At.regs (L' := [(0, _), (3, _), (4, _)]) (.cons rfl (.cons rfl (.cons rfl (.nil _)))) ?_
  refine cd_seq ?_
  refine at_freeze_blk (h := 3) (H' := [(0, _), (1, _)]) 3 rfl (.cons rfl (.cons rfl (.nil _))) rfl ?_
  refine at_rows_nil 200 ?_
  refine cd_mixp [(3, .mem b3 0 [.int .i64 id, dv])] hmix ?_
  refine mxp (i := 0) rfl (by decide +kernel) (by decide +kernel) (by decide +kernel) rfl (fun w0 => ev_move rfl) rfl rfl (fun w sw => sw.cf (.cons rfl (.nil _))) ?_
  refine mxp (i := 1) rfl (by decide +kernel) (by decide +kernel) (by decide +kernel) rfl (fun w0 => ev_nilCheck rfl) rfl rfl (fun w sw => sw.cf (.cons rfl (.nil _))) ?_
  refine mxp (i := 2) rfl (by decide +kernel) (by decide +kernel) (by decide +kernel) rfl (fun w0 => ev_fieldAddr (b := _) Try.underlying52 (f := _) rfl ty50 (by decide) rfl) rfl rfl (fun w sw => sw.cf (.cons rfl (.nil _))) ?_
  refine mxp (i := 3) rfl (by decide +kernel) (by decide +kernel) (by decide +kernel) rfl (fun w0 => ev_mkif Try.underlying54 rfl rfl) rfl rfl (fun w sw => sw.cf (.cons rfl (.nil _))) ?_
  refine mxp (i := 4) rfl (by decide +kernel) (by decide +kernel) (by decide +kernel) rfl (fun w0 => ld_mem_all (h := 3) ty29 rfl rfl rfl rfl) rfl rfl (fun w sw => sw.cf (.cons rfl (.nil _))) ?_
  refine mxp (i := 6) rfl (by decide +kernel) (by decide +kernel) (by decide +kernel) rfl (fun w0 => ev_move rfl) rfl rfl (fun w sw => sw.cf (.cons rfl (.nil _))) ?_
  refine mxp (i := 7) rfl (by decide +kernel) (by decide +kernel) (by decide +kernel) rfl (fun w0 => ev_nilCheck rfl) rfl rfl (fun w sw => sw.cf (.cons rfl (.nil _))) ?_
  refine mxp (i := 8) rfl (by decide +kernel) (by decide +kernel) (by decide +kernel) rfl (fun w0 => ev_fieldAddr (b := _) Try.underlying52 (f := _) rfl ty3 (by decide) rfl) rfl rfl (fun w sw => sw.cf (.cons rfl (.nil _))) ?_
  refine mxp_two (i := 5) (j := 9) (by decide +kernel) (fun w sw => sw.cf (.cons rfl (.nil _))) ?_ ?_
  ·
    refine wo (i := 5) rfl ?_
    refine st_call has18 rfl (fun w1 sw => rn 43 (copied_any id dv data w1 (by omega) (sw.sl_rd (h := 2) rfl))) nil_all rfl rfl (fun v43 _ => ?_)
    refine at_own_shape (h := 43) rfl (fun hs43 => ?_)
    refine at_rows_own (h := 43) (i := 200) (H' := [(0, _), (1, _)]) rfl rfl (.cons rfl (.cons rfl (.nil _))) rfl (fun b' hb' => by rcases List.mem_cons.1 hb' with rfl | hb'; exact ⟨0, _, rfl, by simp [Ent.ids]⟩; exact ⟨1, _, rfl, hb'⟩) (fun hf43 => ?_)
    refine op_nil ?_
    refine ax_then ?_
    refine mxp_one (i := 9) (by decide +kernel) (fun w sw => sw.cf (.cons rfl (.nil _))) ?_
    refine wo (i := 9) rfl ?_
    refine st (ld_blk1 (h := 0) ty3 rfl rfl rfl rfl) rfl rfl rfl ?_
    refine op_nil ?_
    refine ax_then ?_
    refine mxp (i := 10) rfl (by decide +kernel) (by decide +kernel) (by decide +kernel) rfl (fun w0 => ev_build_struct ty57 rfl pl57 rfl ((fill_put (i := 0) (off := 0) (n := 2) (vs := [.int .i64 id, v43]) rfl rfl rfl (Nat.le_of_ble_eq_true rfl)).trans ((fill_put (i := 1) (off := 2) (n := 1) (vs := [.int .i64 ((came + 1 : Nat) : Int)]) rfl rfl rfl (Nat.le_of_ble_eq_true rfl)).trans fill_nil))) rfl rfl (fun w sw => sw.cf (.cons rfl (.nil _))) ?_
    refine at_eq (i := 48) (v' := .agg (List.toArray [.int .i64 (⟨id, v43, data, ((came + 1 : Nat) : Int)⟩ : Bs.W).id, (⟨id, v43, data, ((came + 1 : Nat) : Int)⟩ : Bs.W).dv, .int .i64 (⟨id, v43, data, ((came + 1 : Nat) : Int)⟩ : Bs.W).came])) rfl rfl ?_
    refine mxp (i := 11) rfl (by decide +kernel) (by decide +kernel) (by decide +kernel) rfl (fun w0 => ev_mkif Try.underlying57 rfl rfl) rfl rfl (fun w sw => sw.cf (.cons rfl (.nil _))) ?_
    refine mxp_one (i := 12) (by decide +kernel) (fun w sw => sw.cf (.cons rfl (.nil _))) ?_
    refine wo (i := 12) rfl ?_
    refine st_call has17 rfl (fun w1 sw => hpush_any b qv (.int .i64 ((came + 1 : Nat) : Int)) l (⟨id, v43, data, ((came + 1 : Nat) : Int)⟩ : Bs.W) w1 hs43.2 hll ho (sw.blk_eq (h := 0) rfl) (sw.hold 1 _ rfl) (sw.apart 0 _ 1 _ rfl rfl (by decide) _ (by simp [Ent.ids]))) (mod_two rfl rfl) rfl rfl (fun v50 _ => ?_)
    refine op_nil ?_
    refine ax_then ?_
    refine mxp_done (by decide +kernel) (fun w sw => sw.cf (.cons rfl (.nil _))) ?_
    refine ax_then ?_
    refine At.regs (L' := [(4, _)]) (.cons rfl (.nil _)) ?_
    refine cd_seq ?_
    refine cd_region ?_
    refine st (ev_assign rfl) rfl rfl rfl ?_
    refine op_nil ?_
    refine ax_then ?_
    refine At.regs (L' := [(4, _)]) (.cons rfl (.nil _)) ?_
    refine cd_ret ?_
    refine rt_tmp (.inl rfl) Try.results8 rfl ?_
    exact fun w1 sw => ⟨(v50, v43), hs43.2, rfl, sw.gives (N := [(0, _), (1, _)]) (.cons rfl (.cons rfl (.nil _))), (fun y hy => ⟨sw.rd 200 _ rfl y hy, by rw [List.mem_singleton.1 hy]; exact hf43⟩), fun h e hh b' hb' => by
      rcases lk_two hh with ⟨rfl, rfl⟩ | ⟨rfl, _, rfl⟩
      · exact sw.off 200 _ 0 _ rfl rfl b' hb'
      · exact sw.off 200 _ 1 _ rfl rfl b' hb'⟩
  ·
    refine wo (i := 9) rfl ?_
    refine st (ld_blk1 (h := 0) ty3 rfl rfl rfl rfl) rfl rfl rfl ?_
    refine op_nil ?_
    refine ax_then ?_
    refine mxp_one (i := 5) (by decide +kernel) (fun w sw => sw.cf (.cons rfl (.nil _))) ?_
    refine wo (i := 5) rfl ?_
    refine st_call has18 rfl (fun w1 sw => rn 43 (copied_any id dv data w1 (by omega) (sw.sl_rd (h := 2) rfl))) nil_all rfl rfl (fun v43 _ => ?_)
    refine at_own_shape (h := 43) rfl (fun hs43 => ?_)
    refine at_rows_own (h := 43) (i := 200) (H' := [(0, _), (1, _)]) rfl rfl (.cons rfl (.cons rfl (.nil _))) rfl (fun b' hb' => by rcases List.mem_cons.1 hb' with rfl | hb'; exact ⟨0, _, rfl, by simp [Ent.ids]⟩; exact ⟨1, _, rfl, hb'⟩) (fun hf43 => ?_)
    refine op_nil ?_
    refine ax_then ?_
    refine mxp (i := 10) rfl (by decide +kernel) (by decide +kernel) (by decide +kernel) rfl (fun w0 => ev_build_struct ty57 rfl pl57 rfl ((fill_put (i := 0) (off := 0) (n := 2) (vs := [.int .i64 id, v43]) rfl rfl rfl (Nat.le_of_ble_eq_true rfl)).trans ((fill_put (i := 1) (off := 2) (n := 1) (vs := [.int .i64 ((came + 1 : Nat) : Int)]) rfl rfl rfl (Nat.le_of_ble_eq_true rfl)).trans fill_nil))) rfl rfl (fun w sw => sw.cf (.cons rfl (.nil _))) ?_
    refine at_eq (i := 48) (v' := .agg (List.toArray [.int .i64 (⟨id, v43, data, ((came + 1 : Nat) : Int)⟩ : Bs.W).id, (⟨id, v43, data, ((came + 1 : Nat) : Int)⟩ : Bs.W).dv, .int .i64 (⟨id, v43, data, ((came + 1 : Nat) : Int)⟩ : Bs.W).came])) rfl rfl ?_
    refine mxp (i := 11) rfl (by decide +kernel) (by decide +kernel) (by decide +kernel) rfl (fun w0 => ev_mkif Try.underlying57 rfl rfl) rfl rfl (fun w sw => sw.cf (.cons rfl (.nil _))) ?_
    refine mxp_one (i := 12) (by decide +kernel) (fun w sw => sw.cf (.cons rfl (.nil _))) ?_
    refine wo (i := 12) rfl ?_
    refine st_call has17 rfl (fun w1 sw => hpush_any b qv (.int .i64 ((came + 1 : Nat) : Int)) l (⟨id, v43, data, ((came + 1 : Nat) : Int)⟩ : Bs.W) w1 hs43.2 hll ho (sw.blk_eq (h := 0) rfl) (sw.hold 1 _ rfl) (sw.apart 0 _ 1 _ rfl rfl (by decide) _ (by simp [Ent.ids]))) (mod_two rfl rfl) rfl rfl (fun v50 _ => ?_)
    refine op_nil ?_
    refine ax_then ?_
    refine mxp_done (by decide +kernel) (fun w sw => sw.cf (.cons rfl (.nil _))) ?_
    refine ax_then ?_
    refine At.regs (L' := [(4, _)]) (.cons rfl (.nil _)) ?_
    refine cd_seq ?_
    refine cd_region ?_
    refine st (ev_assign rfl) rfl rfl rfl ?_
    refine op_nil ?_
    refine ax_then ?_
    refine At.regs (L' := [(4, _)]) (.cons rfl (.nil _)) ?_
    refine cd_ret ?_
    refine rt_tmp (.inl rfl) Try.results8 rfl ?_
    exact fun w1 sw => ⟨(v50, v43), hs43.2, rfl, sw.gives (N := [(0, _), (1, _)]) (.cons rfl (.cons rfl (.nil _))), (fun y hy => ⟨sw.rd 200 _ rfl y hy, by rw [List.mem_singleton.1 hy]; exact hf43⟩), fun h e hh b' hb' => by
      rcases lk_two hh with ⟨rfl, rfl⟩ | ⟨rfl, _, rfl⟩
      · exact sw.off 200 _ 0 _ rfl rfl b' hb'
      · exact sw.off 200 _ 1 _ rfl rfl b' hb'⟩
end Go.Proofs.Ytfddplpljjlgiaa

namespace Go.Proofs.Ytfddplpljjlgiaa.Bs
open Go Fw Go.Proofs.Ytfddplpljjlgiaa
theorem known2 (v v' : Value) : upS ([(⟨5, v, [], 1⟩ : W)] ++ [⟨3, v', [], 2⟩]) 1 = [⟨3, v', [], 2⟩, ⟨5, v, [], 1⟩] := by
  rw [upS_step (by decide) (.inl (by show (3 : Int) < 5; decide)), upS_stop (.inl rfl)]
  rfl
theorem known3 (v v' : Value) : downS (swapS [(⟨3, v', [], 2⟩ : W), ⟨5, v, [], 1⟩] 0 ([(⟨3, v', [], 2⟩ : W), ⟨5, v, [], 1⟩].length - 1)) 0 ([(⟨3, v', [], 2⟩ : W), ⟨5, v, [], 1⟩].length - 1) = [⟨5, v, [], 1⟩, ⟨3, v', [], 2⟩] := by
  show downS (swapS _ 0 1) 0 1 = _
  rw [downS_stop (.inl (by decide))]
  rfl
theorem upF_len : ∀ (f : Nat) (l : List W) (j : Nat), (upF f l j).length = l.length
  | 0, _, _ => rfl
  | f + 1, l, j => by
    rw [upF]
    split
    · rfl
    · rw [upF_len f, swapS_len]
theorem upS_len (l : List W) (j : Nat) : (upS l j).length = l.length := upF_len _ _ _
theorem upF_one : ∀ (f : Nat) {l : List W} (h : ∀ x, x ∈ l → x.dv.oneCell' = true) (j : Nat), j < l.length → ∀ x, x ∈ upF f l j → x.dv.oneCell' = true
  | 0, _, h, _, _ => h
  | f + 1, l, h, j, hj => by
    rw [upF]
    split
    · exact h
    · exact upF_one f (swapS_one h (by omega) hj) _ (by rw [swapS_len]; omega)
theorem upS_one {l : List W} (h : ∀ x, x ∈ l → x.dv.oneCell' = true) {j : Nat} (hj : j < l.length) : ∀ x, x ∈ upS l j → x.dv.oneCell' = true := upF_one _ h j hj
end Go.Proofs.Ytfddplpljjlgiaa.Bs

namespace Go.Proofs.Ytfddplpljjlgiaa
open Go Go.RowKit Fw
open Bs
set_option linter.unusedVariables false
set_option linter.unusedSimpArgs false
set_option maxRecDepth 20000 in
set_option maxHeartbeats 1000000 in
theorem new_any (w : World) : Calls Try.prog 7 #[] w (Post (ι := Nat) w [] (fun _ => True) (fun x => .pointer (some ⟨x, 0, none⟩)) (fun x => [(0, .blk (x) (.cells ([.slice none 0 0, .int .i64 ((0 : Nat) : Int)]).toArray 52)), (1, .own (.slice none 0 0) 57 3 (Bs.wflat ([])))])) := by
  refine calls_at (vs := []) (X := []) (H := []) (F := []) 3 Try.func7 rfl rfl rfl (Sat.start0 w) ?_
  refine cd_seq ?_
  refine cd_region ?_
  refine st (ev_assign rfl) rfl rfl rfl ?_
  refine op_nil ?_
  refine ax_then ?_
  refine At.regs (L' := [(0, _)]) (.cons rfl (.nil _)) ?_
  refine cd_seq ?_
  refine cd_region ?_
  refine st (ev_build_struct ty52 rfl pl52 rfl rfl) rfl rfl rfl ?_
  refine st_box (h := 2) rfl rfl rfl rfl (fun b2 => ?_)
  refine at_own_nil 1 57 3 ?_
  refine at_heq (i := 1) (v' := .own (.slice none 0 0) 57 3 (Bs.wflat ([]))) rfl rfl ?_
  refine st (ev_assign rfl) rfl rfl rfl ?_
  refine op_nil ?_
  refine ax_then ?_
  refine At.regs (L' := [(0, _)]) (.cons rfl (.nil _)) ?_
  refine cd_ret ?_
  refine rt_tmp (.inl rfl) Try.results7 rfl ?_
  exact fun w1 sw => ⟨b2, trivial, rfl, (sw.gives (N := [(2, _), (1, _)]) (.cons rfl (.cons rfl (.nil _)))).rn2 (by decide) 0 1⟩
set_option maxRecDepth 20000 in
set_option maxHeartbeats 2000000 in
theorem send_full (b : Nat) (qv c dv : Value) (l : List Bs.W) (id : Int) (data : List Int) (w : World) (hid : 0 ≤ id ∧ id ≤ 2047) (hdl : data.length ≤ 8) (hlen : 64 ≤ l.length) (h : Lies w b 0 [qv, c]) (h' : Rd w qv 3 (Bs.wflat l)) (hd : Rd w dv 1 (ints .u8 data)) : Calls Try.prog 8 #[.pointer (some ⟨b, 0, none⟩), .agg (List.toArray [.int .i64 id, dv])] w (PostV w (.int .i64 12)) := by
  have hsd := rd_shape hd
  refine calls_at (vs := [.pointer (some ⟨b, 0, none⟩), .agg (List.toArray [.int .i64 id, dv])]) (X := []) (H := []) (F := [(22, .sl (dv) 1 (ints .u8 (data))), (21, .mem b 0 [qv, c]), (20, .sl (qv) 3 (Bs.wflat (l)))]) 51 Try.func8 rfl rfl rfl (((Sat.rd0 20 h').read (f := .mem b 0 [qv, c]) 21 h off_nil).more 22 hd) ?_
  refine cd_seq ?_
  refine cd_region ?_
  refine st_box (h := 3) rfl rfl rfl rfl (fun b3 => ?_)
  refine st (ev_assign rfl) rfl rfl rfl ?_
  refine op_nil ?_
  refine ax_then ?_
  refine At.regs (L' := [(0, _), (3, _), (4, _)]) (.cons rfl (.cons rfl (.cons rfl (.nil _)))) ?_
  refine cd_seq ?_
  refine cd_block ?_
  refine cd_seq ?_
  refine cd_region ?_
  refine st (ev_move rfl) rfl rfl rfl ?_
  refine st (ev_eql_ptr_nil Try.underlying23 rfl rfl) rfl rfl rfl ?_
  refine st (ev_move rfl) rfl rfl rfl ?_
  refine st (ev_fieldAddr (b := _) Try.underlying29 (f := _) rfl ty3 (by decide) rfl) rfl rfl rfl ?_
  refine st (ld_blk1 (h := 3) ty3 rfl rfl rfl rfl) rfl rfl rfl ?_
  refine st (ev_lss rfl rfl) rfl rfl rfl ?_
  refine st (ev_pick_f rfl rfl) rfl rfl rfl ?_
  refine st (ev_move rfl) rfl rfl rfl ?_
  refine at_eq (i := 13) (v' := .bool false) rfl (by simp only [Value.bool.injEq, decide_eq_true_eq, decide_eq_false_iff_not]; omega) ?_
  refine st (ev_fieldAddr (b := _) Try.underlying29 (f := _) rfl ty3 (by decide) rfl) rfl rfl rfl ?_
  refine st (ld_blk1 (h := 3) ty3 rfl rfl rfl rfl) rfl rfl rfl ?_
  refine st (ev_gtr rfl rfl) rfl rfl rfl ?_
  refine st (ev_pick_f rfl rfl) rfl rfl rfl ?_
  refine st (ev_move rfl) rfl rfl rfl ?_
  refine at_eq (i := 18) (v' := .bool false) rfl (by simp only [Value.bool.injEq, decide_eq_true_eq, decide_eq_false_iff_not]; omega) ?_
  refine st (ev_fieldAddr (b := _) Try.underlying29 (f := _) rfl ty27 (by decide) rfl) rfl rfl rfl ?_
  refine st (ld_blk1 (h := 3) ty27 rfl rfl rfl rfl) rfl rfl rfl ?_
  refine st (ev_len_rdi (h := 22) Try.underlying27 rfl rfl) rfl rfl rfl ?_
  refine st (ev_gtr rfl rfl) rfl rfl rfl ?_
  refine st (ev_pick_f rfl rfl) rfl rfl rfl ?_
  refine st (ev_assign rfl) rfl rfl rfl ?_
  refine op_nil ?_
  refine ax_then ?_
  refine At.regs (L' := [(0, _), (3, _), (4, _), (5, _)]) (.cons rfl (.cons rfl (.cons rfl (.cons rfl (.nil _))))) ?_
  refine cd_if_f rfl (by omega) ?_
  refine cd_seq ?_
  refine cd_region ?_
  refine st (ev_move rfl) rfl rfl rfl ?_
  refine st (ev_nilCheck rfl) rfl rfl rfl ?_
  refine st (ev_fieldAddr (b := _) Try.underlying52 (f := _) rfl ty50 (by decide) rfl) rfl rfl rfl ?_
  refine st (ld_mem1 (h := 21) ty50 rfl rfl rfl (Nat.zero_add _).symm rfl) rfl rfl rfl ?_
  refine st (ev_len_rd (h := 20) (n := l.length) Try.underlying50 rfl rfl (Bs.wflat_len l) (by decide)) rfl rfl rfl ?_
  refine st (ev_geq rfl rfl) rfl rfl rfl ?_
  refine st (ev_assign rfl) rfl rfl rfl ?_
  refine op_nil ?_
  refine ax_then ?_
  refine At.regs (L' := [(0, _), (3, _), (4, _), (24, _)]) (.cons rfl (.cons rfl (.cons rfl (.cons rfl (.nil _))))) ?_
  refine cd_if_t rfl (by omega) ?_
  refine cd_seq ?_
  refine cd_region ?_
  refine st (ev_assign rfl) rfl rfl rfl ?_
  refine op_nil ?_
  refine ax_then ?_
  refine At.regs (L' := [(0, _), (3, _), (4, _)]) (.cons rfl (.cons rfl (.cons rfl (.nil _)))) ?_
  refine cd_ret ?_
  refine ax_block_ret ?_
  refine ax_then_ret ?_
  refine rt_tmp (.inl rfl) Try.results8 rfl ?_
  exact fun w1 sw => ⟨rfl, sw.gives (.nil _)⟩
set_option maxRecDepth 20000 in
set_option maxHeartbeats 2000000 in
theorem send_arg (b : Nat) (qv c dv : Value) (l : List Bs.W) (id : Int) (data : List Int) (w : World) (hbad : id < 0 ∨ id > 2047 ∨ 8 < data.length) (hdl : data.length ≤ 140737488351232) (h : Lies w b 0 [qv, c]) (h' : Rd w qv 3 (Bs.wflat l)) (hd : Rd w dv 1 (ints .u8 data)) : Calls Try.prog 8 #[.pointer (some ⟨b, 0, none⟩), .agg (List.toArray [.int .i64 id, dv])] w (PostV w (.int .i64 1)) := by
  have hsd := rd_shape hd
  refine calls_at (vs := [.pointer (some ⟨b, 0, none⟩), .agg (List.toArray [.int .i64 id, dv])]) (X := []) (H := []) (F := [(22, .sl (dv) 1 (ints .u8 (data))), (21, .mem b 0 [qv, c]), (20, .sl (qv) 3 (Bs.wflat (l)))]) 51 Try.func8 rfl rfl rfl (((Sat.rd0 20 h').read (f := .mem b 0 [qv, c]) 21 h off_nil).more 22 hd) ?_
  refine cd_seq ?_
  refine cd_region ?_
  refine st_box (h := 3) rfl rfl rfl rfl (fun b3 => ?_)
  refine st (ev_assign rfl) rfl rfl rfl ?_
  refine op_nil ?_
  refine ax_then ?_
  refine At.regs (L' := [(0, _), (3, _), (4, _)]) (.cons rfl (.cons rfl (.cons rfl (.nil _)))) ?_
  refine cd_seq ?_
  refine cd_block ?_
  refine cd_seq ?_
  refine cd_region ?_
  refine st (ev_move rfl) rfl rfl rfl ?_
  refine st (ev_eql_ptr_nil Try.underlying23 rfl rfl) rfl rfl rfl ?_
  refine st (ev_move rfl) rfl rfl rfl ?_
  refine st (ev_fieldAddr (b := _) Try.underlying29 (f := _) rfl ty3 (by decide) rfl) rfl rfl rfl ?_
  refine st (ld_blk1 (h := 3) ty3 rfl rfl rfl rfl) rfl rfl rfl ?_
  refine st (ev_lss rfl rfl) rfl rfl rfl ?_
  refine st (ev_pick_f rfl rfl) rfl rfl rfl ?_
  refine st (ev_move rfl) rfl rfl rfl ?_
  refine at_split_if (i := 13) rfl (fun hg13 => ?_) (fun hg13 => ?_)
  ·
    refine st_skip rfl rfl rfl ?_
    refine st_skip rfl rfl rfl ?_
    refine st_skip rfl rfl rfl ?_
    refine st (ev_pick_t rfl rfl) rfl rfl rfl ?_
    refine st (ev_move rfl) rfl rfl rfl ?_
    refine st_skip rfl rfl rfl ?_
    refine st_skip rfl rfl rfl ?_
    refine st_skip rfl rfl rfl ?_
    refine st_skip rfl rfl rfl ?_
    refine st (ev_pick_t rfl rfl) rfl rfl rfl ?_
    refine st (ev_assign rfl) rfl rfl rfl ?_
    refine op_nil ?_
    refine ax_then ?_
    refine At.regs (L' := [(0, _), (3, _), (4, _), (5, _)]) (.cons rfl (.cons rfl (.cons rfl (.cons rfl (.nil _))))) ?_
    refine cd_true rfl ?_
    refine cd_seq ?_
    refine cd_region ?_
    refine st (ev_assign rfl) rfl rfl rfl ?_
    refine op_nil ?_
    refine ax_then ?_
    refine At.regs (L' := [(0, _), (3, _), (4, _)]) (.cons rfl (.cons rfl (.cons rfl (.nil _)))) ?_
    refine cd_ret ?_
    refine ax_block_ret ?_
    refine ax_then_ret ?_
    refine rt_tmp (.inl rfl) Try.results8 rfl ?_
    exact fun w1 sw => ⟨rfl, sw.gives (.nil _)⟩
  ·
    refine st (ev_fieldAddr (b := _) Try.underlying29 (f := _) rfl ty3 (by decide) rfl) rfl rfl rfl ?_
    refine st (ld_blk1 (h := 3) ty3 rfl rfl rfl rfl) rfl rfl rfl ?_
    refine st (ev_gtr rfl rfl) rfl rfl rfl ?_
    refine st (ev_pick_f rfl rfl) rfl rfl rfl ?_
    refine st (ev_move rfl) rfl rfl rfl ?_
    refine at_split_if (i := 18) rfl (fun hg18 => ?_) (fun hg18 => ?_)
    ·
      refine st_skip rfl rfl rfl ?_
      refine st_skip rfl rfl rfl ?_
      refine st_skip rfl rfl rfl ?_
      refine st_skip rfl rfl rfl ?_
      refine st (ev_pick_t rfl rfl) rfl rfl rfl ?_
      refine st (ev_assign rfl) rfl rfl rfl ?_
      refine op_nil ?_
      refine ax_then ?_
      refine At.regs (L' := [(0, _), (3, _), (4, _), (5, _)]) (.cons rfl (.cons rfl (.cons rfl (.cons rfl (.nil _))))) ?_
      refine cd_true rfl ?_
      refine cd_seq ?_
      refine cd_region ?_
      refine st (ev_assign rfl) rfl rfl rfl ?_
      refine op_nil ?_
      refine ax_then ?_
      refine At.regs (L' := [(0, _), (3, _), (4, _)]) (.cons rfl (.cons rfl (.cons rfl (.nil _)))) ?_
      refine cd_ret ?_
      refine ax_block_ret ?_
      refine ax_then_ret ?_
      refine rt_tmp (.inl rfl) Try.results8 rfl ?_
      exact fun w1 sw => ⟨rfl, sw.gives (.nil _)⟩
    ·
      refine st (ev_fieldAddr (b := _) Try.underlying29 (f := _) rfl ty27 (by decide) rfl) rfl rfl rfl ?_
      refine st (ld_blk1 (h := 3) ty27 rfl rfl rfl rfl) rfl rfl rfl ?_
      refine st (ev_len_rdi (h := 22) Try.underlying27 rfl rfl) rfl rfl rfl ?_
      refine st (ev_gtr rfl rfl) rfl rfl rfl ?_
      refine st (ev_pick_f rfl rfl) rfl rfl rfl ?_
      refine st (ev_assign rfl) rfl rfl rfl ?_
      refine op_nil ?_
      refine ax_then ?_
      refine At.regs (L' := [(0, _), (3, _), (4, _), (5, _)]) (.cons rfl (.cons rfl (.cons rfl (.cons rfl (.nil _))))) ?_
      refine cd_if_t rfl (by omega) ?_
      refine cd_seq ?_
      refine cd_region ?_
      refine st (ev_assign rfl) rfl rfl rfl ?_
      refine op_nil ?_
      refine ax_then ?_
      refine At.regs (L' := [(0, _), (3, _), (4, _)]) (.cons rfl (.cons rfl (.cons rfl (.nil _)))) ?_
      refine cd_ret ?_
      refine ax_block_ret ?_
      refine ax_then_ret ?_
      refine rt_tmp (.inl rfl) Try.results8 rfl ?_
      exact fun w1 sw => ⟨rfl, sw.gives (.nil _)⟩
set_option maxRecDepth 20000 in
set_option maxHeartbeats 2000000 in
theorem next_ok (b : Nat) (qv : Value) (l : List Bs.W) (came : Nat) (w : World) (hpos : 0 < l.length) (hll : l.length ≤ 100000) (ho : ∀ x, x ∈ l → x.dv.oneCell' = true) (hb : w.heap[b]? = some (.cells (List.toArray [qv, .int .i64 (came : Nat)]) 52)) (hv : Own w qv 57 3 (Bs.wflat l)) (hbv : b ∉ blkOf qv) : Calls Try.prog 9 #[.pointer (some ⟨b, 0, none⟩)] w (Post (ι := Unit) w (b :: blkOf qv) (fun _ => True) (fun _ => .tuple #[.agg (List.toArray [.int .i64 ((Bs.downS (Bs.swapS l 0 (l.length - 1)) 0 (l.length - 1)).getD (l.length - 1) Bs.w0).id, ((Bs.downS (Bs.swapS l 0 (l.length - 1)) 0 (l.length - 1)).getD (l.length - 1) Bs.w0).dv]), .bool true]) (fun _ => [(0, .blk (b) (.cells ([(cutAt 3 qv 0 (l.length - 1)), .int .i64 (came : Nat)]).toArray 52)), (1, .own ((cutAt 3 qv 0 (l.length - 1))) 57 3 (Bs.wflat ((Bs.downS (Bs.swapS l 0 (l.length - 1)) 0 (l.length - 1)).take (l.length - 1))))])) := by
  have ho2 := Bs.downS_one (Bs.swapS_one ho (i := 0) (k := (l.length - 1)) (by omega) (by omega)) 0 (l.length - 1) (by rw [Bs.swapS_len]; omega)
  have hlast := ho2 _ (Bs.getD_mem (i := (l.length - 1)) (by rw [Bs.downS_len, Bs.swapS_len]; omega))
  refine calls_at (vs := [.pointer (some ⟨b, 0, none⟩)]) (X := b :: blkOf qv) (H := [(0, .blk (b) (.cells ([qv, .int .i64 (came : Nat)]).toArray 52)), (1, .own (qv) 57 3 (Bs.wflat (l)))]) (F := []) 22 Try.func9 rfl rfl rfl (Sat.two 0 1 (by decide) hb hv hbv) ?_
  refine cd_seq ?_
  refine cd_region ?_
  refine st_alloc (h := 2) ty29 rfl rfl rfl (fun b2 => ?_)
  refine st (ev_assign rfl) rfl rfl rfl ?_
  refine op_nil ?_
  refine ax_then ?_
  refine At.regs (L' := [(0, _), (2, _), (3, _)]) (.cons rfl (.cons rfl (.cons rfl (.nil _)))) ?_
  refine cd_seq ?_
  refine cd_seq ?_
  refine cd_region ?_
  refine st (ev_move rfl) rfl rfl rfl ?_
  refine st_callv has10 rfl (fun w1 sw => blen_any b qv (.int .i64 (came : Nat)) l w1 (lies_blk (sw.blk_eq (h := 0) rfl)) (sw.own_rd (h := 1) rfl)) rfl rfl ?_
  refine st (ev_eql rfl rfl) rfl rfl rfl ?_
  refine op_nil ?_
  refine ax_then ?_
  refine At.regs (L' := [(0, _), (2, _), (3, _), (8, _)]) (.cons rfl (.cons rfl (.cons rfl (.cons rfl (.nil _))))) ?_
  refine cd_if_f rfl (by omega) ?_
  refine cd_skip ?_
  refine ax_then ?_
  refine At.regs (L' := [(0, _), (2, _), (3, _)]) (.cons rfl (.cons rfl (.cons rfl (.nil _)))) ?_
  refine cd_seq ?_
  refine cd_region ?_
  refine st (ev_move rfl) rfl rfl rfl ?_
  refine st (ev_nilCheck rfl) rfl rfl rfl ?_
  refine st (ev_fieldAddr (b := _) Try.underlying52 (f := _) rfl ty50 (by decide) rfl) rfl rfl rfl ?_
  refine st (ev_mkif Try.underlying54 rfl rfl) rfl rfl rfl ?_
  refine st_call has19 rfl (fun w1 sw => hpop_any b qv (.int .i64 (came : Nat)) l w1 hpos hll ho (sw.blk_eq (h := 0) rfl) (sw.hold 1 _ rfl) (sw.apart 0 _ 1 _ rfl rfl (by decide) _ (by simp [Ent.ids]))) (mod_two rfl rfl) rfl rfl (fun _ _ => ?_)
  refine st (ev_assert Try.underlying57 rfl rfl) rfl rfl rfl ?_
  refine st (ev_move rfl) rfl rfl rfl ?_
  refine st (ev_extract rfl rfl) rfl rfl rfl ?_
  refine st (ev_extract rfl rfl) rfl rfl rfl ?_
  refine st_alloc (h := 4) ty57 rfl rfl rfl (fun b4 => ?_)
  refine st_store_all 4 ty57 rfl rfl rfl rfl rfl (by intro u0 hu0; simp only [List.mem_cons, List.not_mem_nil, or_false] at hu0; rcases hu0 with rfl | rfl | rfl; rfl; exact hlast; rfl) rfl rfl ?_
  refine st (ev_assign rfl) rfl rfl rfl ?_
  refine op_nil ?_
  refine ax_then ?_
  refine At.regs (L' := [(2, _), (3, _), (4, _), (5, _)]) (.cons rfl (.cons rfl (.cons rfl (.cons rfl (.nil _))))) ?_
  refine cd_seq ?_
  refine cd_region ?_
  refine st (ev_fieldAddr (b := _) Try.underlying57 (f := _) rfl ty29 (by decide) rfl) rfl rfl rfl ?_
  refine st (ld_blk (h := 4) ty29 rfl rfl rfl (Nat.le_of_ble_eq_true rfl)) rfl rfl rfl ?_
  refine at_eq (i := 20) (v' := .agg (List.toArray [.int .i64 ((Bs.downS (Bs.swapS l 0 (l.length - 1)) 0 (l.length - 1)).getD (l.length - 1) Bs.w0).id, ((Bs.downS (Bs.swapS l 0 (l.length - 1)) 0 (l.length - 1)).getD (l.length - 1) Bs.w0).dv])) rfl rfl ?_
  refine st (ev_move rfl) rfl rfl rfl ?_
  refine st_store_all 2 ty29 rfl rfl rfl rfl rfl (by intro u0 hu0; simp only [List.mem_cons, List.not_mem_nil, or_false] at hu0; rcases hu0 with rfl | rfl; rfl; exact hlast) rfl rfl ?_
  refine st (ev_assign rfl) rfl rfl rfl ?_
  refine op_nil ?_
  refine ax_then ?_
  refine At.regs (L' := [(2, _), (3, _)]) (.cons rfl (.cons rfl (.nil _))) ?_
  refine cd_ret ?_
  refine rt_cell_tmp (h0 := 2) (.inl rfl) Try.results9 ty29 rfl rfl rfl rfl rfl ?_
  exact fun w1 sw => ⟨(), trivial, rfl, sw.gives (N := [(0, _), (1, _)]) (.cons rfl (.cons rfl (.nil _)))⟩
theorem rd_nil1 {w : World} : Rd w (.slice none 0 0) 1 (ints .u8 []) := ⟨none, 0, 0, rfl, rfl, Nat.le_refl _, fun _ => rfl, fun x hx => by cases hx⟩
set_option maxRecDepth 20000 in
set_option maxHeartbeats 2000000 in
theorem known14_any (w : World) : Calls Try.prog 11 #[] w (PostV w (.bool true)) := by
  refine calls_at (vs := []) (X := []) (H := []) (F := []) 29 Try.func11 rfl rfl rfl (Sat.start0 w) ?_
  refine cd_seq ?_
  refine cd_region ?_
  refine st (ev_assign rfl) rfl rfl rfl ?_
  refine op_nil ?_
  refine ax_then ?_
  refine At.regs (L' := [(0, _)]) (.cons rfl (.nil _)) ?_
  refine cd_seq ?_
  refine cd_region ?_
  refine st_call has7 rfl (fun w1 sw => new_any w1) nil_all rfl rfl (fun b4 _ => ?_)
  refine st (ev_assign rfl) rfl rfl rfl ?_
  refine op_nil ?_
  refine ax_then ?_
  refine At.regs (L' := [(0, _), (1, _)]) (.cons rfl (.cons rfl (.nil _))) ?_
  refine cd_seq ?_
  refine cd_seq ?_
  refine cd_region ?_
  refine st (ev_move rfl) rfl rfl rfl ?_
  refine st (ev_eql_ptr_nil Try.underlying23 rfl rfl) rfl rfl rfl ?_
  refine op_nil ?_
  refine ax_then ?_
  refine At.regs (L' := [(0, _), (1, _), (6, _)]) (.cons rfl (.cons rfl (.cons rfl (.nil _)))) ?_
  refine cd_false rfl ?_
  refine cd_skip ?_
  refine ax_then ?_
  refine At.regs (L' := [(0, _), (1, _)]) (.cons rfl (.cons rfl (.nil _))) ?_
  refine cd_seq ?_
  refine cd_region ?_
  refine st (ev_move rfl) rfl rfl rfl ?_
  refine st (ev_build_struct ty29 rfl pl29 rfl ((fill_put (i := 0) (off := 0) (n := 1) (vs := [.int .i64 5]) rfl rfl rfl (Nat.le_of_ble_eq_true rfl)).trans fill_nil)) rfl rfl rfl ?_
  refine at_eq (i := 8) (v' := .agg (List.toArray [.int .i64 5, .slice none 0 0])) rfl rfl ?_
  refine st_callRM 209 has8 rfl (fun w1 sw => send_ok b4 (.slice none 0 0) (.slice none 0 0) [] 0 5 [] w1 ⟨by decide, by decide⟩ (by decide) (Nat.le_of_ble_eq_true rfl) (by decide) (Nat.le_of_ble_eq_true rfl) (fun y hy => by cases hy) (sw.blk_eq (h := 0) rfl) (sw.hold 1 _ rfl) (sw.apart 0 _ 1 _ rfl rfl (by decide) _ (by simp [Ent.ids])) rd_nil1 (.inl rfl) (fun _ _ => .inl rfl)) (mod_two rfl rfl) rfl rfl (fun x9 hx9 hf9 => ?_)
  obtain ⟨q9, v9⟩ := x9
  dsimp only at hx9 ⊢
  refine at_heq (i := 1) (v' := .own (q9) 57 3 (Bs.wflat ([(⟨5, v9, [], 1⟩ : Bs.W)]))) rfl (congrArg (fun z => Ent.own q9 57 3 (Bs.wflat z)) (Bs.upS_stop (.inl rfl))) ?_
  refine op_nil ?_
  refine ax_then ?_
  refine At.regs (L' := [(0, _), (1, _)]) (.cons rfl (.cons rfl (.nil _))) ?_
  refine cd_seq ?_
  refine cd_region ?_
  refine st (ev_move rfl) rfl rfl rfl ?_
  refine st (ev_build_struct ty29 rfl pl29 rfl ((fill_put (i := 0) (off := 0) (n := 1) (vs := [.int .i64 3]) rfl rfl rfl (Nat.le_of_ble_eq_true rfl)).trans fill_nil)) rfl rfl rfl ?_
  refine at_eq (i := 11) (v' := .agg (List.toArray [.int .i64 3, .slice none 0 0])) rfl rfl ?_
  refine st_callRM 212 has8 rfl (fun w1 sw => send_ok b4 q9 (.slice none 0 0) [(⟨5, v9, [], 1⟩ : Bs.W)] 1 3 [] w1 ⟨by decide, by decide⟩ (by decide) (Nat.le_of_ble_eq_true rfl) (by decide) (Nat.le_of_ble_eq_true rfl) (fun y hy => by rw [List.mem_singleton.1 hy]; exact hx9) (sw.blk_eq (h := 0) rfl) (sw.hold 1 _ rfl) (sw.apart 0 _ 1 _ rfl rfl (by decide) _ (by simp [Ent.ids])) rd_nil1 (.inl rfl) (fun _ _ => .inl rfl)) (mod_two rfl rfl) rfl rfl (fun x12 hx12 hf12 => ?_)
  obtain ⟨q12, v12⟩ := x12
  dsimp only at hx12 ⊢
  refine at_heq (i := 1) (v' := .own (q12) 57 3 (Bs.wflat ([(⟨3, v12, [], 2⟩ : Bs.W), (⟨5, v9, [], 1⟩ : Bs.W)]))) rfl (congrArg (fun z => Ent.own q12 57 3 (Bs.wflat z)) (Bs.known2 v9 v12)) ?_
  refine op_nil ?_
  refine ax_then ?_
  refine At.regs (L' := [(0, _), (1, _)]) (.cons rfl (.cons rfl (.nil _))) ?_
  refine cd_seq ?_
  refine cd_region ?_
  refine st (ev_move rfl) rfl rfl rfl ?_
  refine st_call has9 rfl (fun w1 sw => next_ok b4 q12 [(⟨3, v12, [], 2⟩ : Bs.W), (⟨5, v9, [], 1⟩ : Bs.W)] 2 w1 (Nat.le_of_ble_eq_true rfl) (Nat.le_of_ble_eq_true rfl) (fun y hy => by simp only [List.mem_cons, List.not_mem_nil, or_false] at hy; rcases hy with rfl | rfl; exact hx12; exact hx9) (sw.blk_eq (h := 0) rfl) (sw.hold 1 _ rfl) (sw.apart 0 _ 1 _ rfl rfl (by decide) _ (by simp [Ent.ids]))) (mod_two rfl rfl) rfl rfl (fun _ _ => ?_)
  refine at_eq (i := 15) (v' := .tuple #[.agg (List.toArray [.int .i64 3, v12]), .bool true]) rfl (by rw [Bs.known3 v9 v12]; rfl) ?_
  refine at_heq (i := 1) (v' := .own ((cutAt 3 q12 0 1)) 57 3 (Bs.wflat ([(⟨5, v9, [], 1⟩ : Bs.W)]))) rfl (by rw [Bs.known3 v9 v12]; rfl) ?_
  refine st (ev_move rfl) rfl rfl rfl ?_
  refine st (ev_extract rfl rfl) rfl rfl rfl ?_
  refine st (ev_extract rfl rfl) rfl rfl rfl ?_
  refine st_alloc (h := 2) ty29 rfl rfl rfl (fun b2 => ?_)
  refine st_store_all 2 ty29 rfl rfl rfl rfl rfl (by intro u0 hu0; simp only [List.mem_cons, List.not_mem_nil, or_false] at hu0; rcases hu0 with rfl | rfl; rfl; exact hx12) rfl rfl ?_
  refine st (ev_assign rfl) rfl rfl rfl ?_
  refine op_nil ?_
  refine ax_then ?_
  refine At.regs (L' := [(0, _), (1, _), (2, _), (3, _)]) (.cons rfl (.cons rfl (.cons rfl (.cons rfl (.nil _))))) ?_
  refine cd_seq ?_
  refine cd_region ?_
  refine st (ev_move rfl) rfl rfl rfl ?_
  refine st (ev_move rfl) rfl rfl rfl ?_
  refine st (ev_fieldAddr (b := _) Try.underlying29 (f := _) rfl ty3 (by decide) rfl) rfl rfl rfl ?_
  refine st (ld_blk1 (h := 2) ty3 rfl rfl rfl rfl) rfl rfl rfl ?_
  refine st (ev_eql rfl rfl) rfl rfl rfl ?_
  refine st (ev_pick_t rfl rfl) rfl rfl rfl ?_
  refine st (ev_move rfl) rfl rfl rfl ?_
  refine at_eq (i := 24) (v' := .bool true) rfl (by rw [decide_eq_true rfl]) ?_
  refine st (ev_move rfl) rfl rfl rfl ?_
  refine st_callv has10 rfl (fun w1 sw => blen_any b4 (cutAt 3 q12 0 1) (.int .i64 ((2 : Nat) : Int)) [(⟨5, v9, [], 1⟩ : Bs.W)] w1 (lies_blk (sw.blk_eq (h := 0) rfl)) (sw.own_rd (h := 1) rfl)) rfl rfl ?_
  refine st (ev_eql rfl rfl) rfl rfl rfl ?_
  refine st (ev_pick_t rfl rfl) rfl rfl rfl ?_
  refine st (ev_assign rfl) rfl rfl rfl ?_
  refine op_nil ?_
  refine ax_then ?_
  refine At.regs (L' := [(0, _)]) (.cons rfl (.nil _)) ?_
  refine cd_ret ?_
  refine rt_tmp (.inl rfl) Try.results11 rfl ?_
  exact fun w1 sw => ⟨rfl, sw.gives (.nil _)⟩
end Go.Proofs.Ytfddplpljjlgiaa

namespace Go.Proofs.Ytfddplpljjlgiaa.Fw
open Go Go.RowKit Go.Proofs.Ytfddplpljjlgiaa
set_option linter.unusedSimpArgs false
set_option linter.unusedVariables false
section
variable {P : Program} {E : Env} {L : List (Nat × Value)} {H : List (Nat × Ent)} {F : List (Nat × FE)}
variable {dst : Option Tmp} {ty : TypeId} {pos : String} {af : Array Edge} {gd : Option (Nat × Bool)}
theorem ev_neq_bool {T T' : Nat} {x y : Operand} {b c : Bool} (hT : P.underlying T = some .bool) (hx : ev L x = some (.bool b)) (hy : ev L y = some (.bool c)) : Ev P ⟨dst, .binOp .neq T x y T', ty, pos, af, gd⟩ E L H F (.bool (!(b == c))) :=
  fun a w fa _ => by
    have e0 : ∀ d, (Op.equalIn (d + 1) T (.bool b) (.bool c)).run P w = .ok (b == c) w := fun d => by simp [Op.equalIn, run_und hT]
    have e4 : (Op.equalIn Op.maxDepth T (.bool b) (.bool c)).run P w = .ok (b == c) w := e0 9999
    simp only [execOp, fa.ev hx, fa.ev hy, eqGuard, binOp, Op.equal, Sem.run_bind]
    simp [e4]
end
end Go.Proofs.Ytfddplpljjlgiaa.Fw

namespace Go.Proofs.Ytfddplpljjlgiaa
open Go Go.RowKit Fw
open Bs
set_option linter.unusedVariables false
set_option linter.unusedSimpArgs false
theorem send_emp (b : Nat) (qv : Value) (l : List Bs.W) (id : Int) (w : World) (hid : 0 ≤ id ∧ id ≤ 2047) (hl : l.length ≤ 64) (ho : ∀ x, x ∈ l → x.dv.oneCell' = true) (hb : w.heap[b]? = some (.cells (List.toArray [qv, .int .i64 ((l.length : Nat) : Int)]) 52)) (hv : Own w qv 57 3 (Bs.wflat l)) (hbv : b ∉ blkOf qv) :
    Calls Try.prog 8 #[.pointer (some ⟨b, 0, none⟩), .agg (List.toArray [.int .i64 id, .slice none 0 0])] w (Post (ι := Value × List Bs.W) w (b :: blkOf qv) (fun x => (∀ y, y ∈ x.2 → y.dv.oneCell' = true) ∧ x.2.length = if l.length < 64 then l.length + 1 else l.length) (fun _ => .int .i64 (if l.length < 64 then 0 else 12)) (fun x => [(0, .blk (b) (.cells ([x.1, .int .i64 ((x.2.length : Nat) : Int)]).toArray 52)), (1, .own (x.1) 57 3 (Bs.wflat (x.2)))])) := by
  by_cases h : l.length < 64
  · refine (send_ok b qv (.slice none 0 0) l l.length id [] w hid (by decide) h (by omega) (by omega) ho hb hv hbv rd_nil1 (.inl rfl) (fun _ _ => .inl rfl)).mono ?_
    rintro e w' ⟨x, hx, rfl, g, _, _⟩
    have e1 : (Bs.upS (l ++ [(⟨id, x.2, [], ((l.length + 1 : Nat) : Int)⟩ : Bs.W)]) l.length).length = l.length + 1 := by rw [Bs.upS_len]; simp
    refine ⟨(x.1, Bs.upS (l ++ [(⟨id, x.2, [], ((l.length + 1 : Nat) : Int)⟩ : Bs.W)]) l.length), ⟨Bs.upS_one (fun y hy => (List.mem_append.1 hy).elim (ho y) (fun h => by rw [List.mem_singleton.1 h]; exact hx)) (by simp), by rw [if_pos h]; exact e1⟩, by rw [if_pos h], ?_⟩
    dsimp only
    rw [e1]
    exact g
  · refine (send_full b qv _ (.slice none 0 0) l id [] w hid (by decide) (by omega) (lies_blk hb) (own_rd hv) rd_nil1).mono ?_
    rintro e w' ⟨rfl, g⟩
    exact ⟨(qv, l), ⟨ho, by rw [if_neg h]⟩, by rw [if_neg h], ((Sat.two 0 1 (by decide) hb hv hbv).step g (fun b hb => by cases hb)).gives (N := [(0, _), (1, _)]) (.cons rfl (.cons rfl (.nil _)))⟩
set_option maxRecDepth 20000 in
set_option maxHeartbeats 4000000 in
theorem busFull_any (n id : Int) (dv : Value) (data : List Int) (w : World) (hdl : data.length ≤ 140737488351232) (hd : Rd w dv 1 (ints .u8 data)) : Calls Try.prog 4 #[.int .i64 n, .int .i64 id, dv] w (PostV w (.bool true)) := by
  have hsd := rd_shape hd
  refine calls_at (vs := [.int .i64 n, .int .i64 id, dv]) (X := []) (H := []) (F := [(22, .sl (dv) 1 (ints .u8 (data)))]) 73 Try.func4 rfl rfl rfl (Sat.rd0 22 hd) ?_
  refine cd_seq ?_
  refine cd_region ?_
  refine st (ev_assign rfl) rfl rfl rfl ?_
  refine op_nil ?_
  refine ax_then ?_
  refine At.regs (L' := [(0, _), (1, _), (2, _), (6, _)]) (.cons rfl (.cons rfl (.cons rfl (.cons rfl (.nil _))))) ?_
  refine cd_seq ?_
  refine cd_seq ?_
  refine cd_region ?_
  refine st (ev_move rfl) rfl rfl rfl ?_
  refine st (ev_lss rfl rfl) rfl rfl rfl ?_
  refine st (ev_move rfl) rfl rfl rfl ?_
  refine at_split_if (i := 12) rfl (fun hg12 => ?_) (fun hg12 => ?_)
  ·
    refine st_skip rfl rfl rfl ?_
    refine st_skip rfl rfl rfl ?_
    refine st (ev_pick_t rfl rfl) rfl rfl rfl ?_
    refine st (ev_move rfl) rfl rfl rfl ?_
    refine st_skip rfl rfl rfl ?_
    refine st_skip rfl rfl rfl ?_
    refine st_skip rfl rfl rfl ?_
    refine st (ev_pick_t rfl rfl) rfl rfl rfl ?_
    refine op_nil ?_
    refine ax_then ?_
    refine At.regs (L' := [(0, _), (1, _), (2, _), (6, _), (20, _)]) (.cons rfl (.cons rfl (.cons rfl (.cons rfl (.cons rfl (.nil _)))))) ?_
    refine cd_true rfl ?_
    refine cd_seq ?_
    refine cd_region ?_
    refine st (ev_assign rfl) rfl rfl rfl ?_
    refine op_nil ?_
    refine ax_then ?_
    refine At.regs (L' := [(0, _), (1, _), (2, _), (6, _)]) (.cons rfl (.cons rfl (.cons rfl (.cons rfl (.nil _))))) ?_
    refine cd_ret ?_
    refine ax_then_ret ?_
    refine rt_tmp (.inl rfl) Try.results4 rfl ?_
    exact fun w1 sw => ⟨rfl, sw.gives (.nil _)⟩
  ·
    refine st (ev_move rfl) rfl rfl rfl ?_
    refine st (ev_gtr rfl rfl) rfl rfl rfl ?_
    refine st (ev_pick_f rfl rfl) rfl rfl rfl ?_
    refine st (ev_move rfl) rfl rfl rfl ?_
    refine at_split_if (i := 16) rfl (fun hg16 => ?_) (fun hg16 => ?_)
    ·
      refine st_skip rfl rfl rfl ?_
      refine st_skip rfl rfl rfl ?_
      refine st_skip rfl rfl rfl ?_
      refine st (ev_pick_t rfl rfl) rfl rfl rfl ?_
      refine op_nil ?_
      refine ax_then ?_
      refine At.regs (L' := [(0, _), (1, _), (2, _), (6, _), (20, _)]) (.cons rfl (.cons rfl (.cons rfl (.cons rfl (.cons rfl (.nil _)))))) ?_
      refine cd_true rfl ?_
      refine cd_seq ?_
      refine cd_region ?_
      refine st (ev_assign rfl) rfl rfl rfl ?_
      refine op_nil ?_
      refine ax_then ?_
      refine At.regs (L' := [(0, _), (1, _), (2, _), (6, _)]) (.cons rfl (.cons rfl (.cons rfl (.cons rfl (.nil _))))) ?_
      refine cd_ret ?_
      refine ax_then_ret ?_
      refine rt_tmp (.inl rfl) Try.results4 rfl ?_
      exact fun w1 sw => ⟨rfl, sw.gives (.nil _)⟩
    ·
      refine st (ev_move rfl) rfl rfl rfl ?_
      refine st (ev_len_rdi (h := 22) Try.underlying27 rfl rfl) rfl rfl rfl ?_
      refine st (ev_gtr rfl rfl) rfl rfl rfl ?_
      refine st (ev_pick_f rfl rfl) rfl rfl rfl ?_
      refine op_nil ?_
      refine ax_then ?_
      refine At.regs (L' := [(0, _), (1, _), (2, _), (6, _), (20, _)]) (.cons rfl (.cons rfl (.cons rfl (.cons rfl (.cons rfl (.nil _)))))) ?_
      refine cd_if rfl (fun hc20 => ?_) (fun hc20 => ?_)
      ·
        refine cd_seq ?_
        refine cd_region ?_
        refine st (ev_assign rfl) rfl rfl rfl ?_
        refine op_nil ?_
        refine ax_then ?_
        refine At.regs (L' := [(0, _), (1, _), (2, _), (6, _)]) (.cons rfl (.cons rfl (.cons rfl (.cons rfl (.nil _))))) ?_
        refine cd_ret ?_
        refine ax_then_ret ?_
        refine rt_tmp (.inl rfl) Try.results4 rfl ?_
        exact fun w1 sw => ⟨rfl, sw.gives (.nil _)⟩
      ·
        refine cd_skip ?_
        refine ax_then ?_
        refine At.regs (L' := [(0, _), (1, _), (2, _), (6, _)]) (.cons rfl (.cons rfl (.cons rfl (.cons rfl (.nil _))))) ?_
        refine cd_seq ?_
        refine cd_region ?_
        refine st_call has7 rfl (fun w1 sw => new_any w1) nil_all rfl rfl (fun b21 _ => ?_)
        refine st (ev_assign rfl) rfl rfl rfl ?_
        refine op_nil ?_
        refine ax_then ?_
        refine At.regs (L' := [(0, _), (1, _), (2, _), (6, _), (7, _)]) (.cons rfl (.cons rfl (.cons rfl (.cons rfl (.cons rfl (.nil _)))))) ?_
        refine cd_seq ?_
        refine cd_seq ?_
        refine cd_region ?_
        refine st (ev_move rfl) rfl rfl rfl ?_
        refine st (ev_eql_ptr_nil Try.underlying23 rfl rfl) rfl rfl rfl ?_
        refine op_nil ?_
        refine ax_then ?_
        refine At.regs (L' := [(0, _), (1, _), (2, _), (6, _), (7, _), (23, _)]) (.cons rfl (.cons rfl (.cons rfl (.cons rfl (.cons rfl (.cons rfl (.nil _))))))) ?_
        refine cd_false rfl ?_
        refine cd_skip ?_
        refine ax_then ?_
        refine At.regs (L' := [(0, _), (1, _), (2, _), (6, _), (7, _)]) (.cons rfl (.cons rfl (.cons rfl (.cons rfl (.cons rfl (.nil _)))))) ?_
        refine cd_seq ?_
        refine cd_seq ?_
        refine cd_region ?_
        refine st (ev_assign rfl) rfl rfl rfl ?_
        refine op_nil ?_
        refine ax_then ?_
        refine At.regs (L' := [(0, _), (1, _), (2, _), (6, _), (7, _), (8, _)]) (.cons rfl (.cons rfl (.cons rfl (.cons rfl (.cons rfl (.cons rfl (.nil _))))))) ?_
        refine cd_block ?_
        refine cd_loop (ι := Nat × Value × List Bs.W) (fun x => x.1 ≤ n.toNat ∧ x.2.2.length = min x.1 64 ∧ ∀ y, y ∈ x.2.2 → y.dv.oneCell' = true) (fun x => n.toNat - x.1)
            (fun x => [(0, .int .i64 n), (1, .int .i64 id), (2, dv), (7, .pointer (some ⟨b21, 0, none⟩)), (8, .int .i64 (x.1 : Nat))])
            (fun x => [(0, .blk (b21) (.cells ([x.2.1, .int .i64 ((x.2.2.length : Nat) : Int)]).toArray 52)), (1, .own (x.2.1) 57 3 (Bs.wflat (x.2.2)))])
            (fun x => [(22, .sl (dv) 1 (ints .u8 (data)))])
            (0, .slice none 0 0, []) (⟨Nat.zero_le _, rfl, fun y hy => by cases hy⟩) (.cons rfl (.cons rfl (.cons rfl (.cons rfl (.cons rfl (.nil _)))))) (.cons rfl (.cons rfl (.nil _))) (.cons rfl (.nil _)) (fun x hi => ?_)
        obtain ⟨i, q, l⟩ := x
        dsimp only at hi ⊢
        obtain ⟨hi1, hi2, ho⟩ := hi
        refine cd_seq ?_
        refine cd_seq ?_
        refine cd_region ?_
        refine st (ev_move rfl) rfl rfl rfl ?_
        refine st (ev_move rfl) rfl rfl rfl ?_
        refine st (ev_lss rfl rfl) rfl rfl rfl ?_
        refine op_nil ?_
        refine ax_then ?_
        refine At.regs (L' := [(0, _), (1, _), (2, _), (7, _), (8, _), (24, _), (25, _), (26, _)]) (.cons rfl (.cons rfl (.cons rfl (.cons rfl (.cons rfl (.cons rfl (.cons rfl (.cons rfl (.nil _))))))))) ?_
        refine cd_if rfl (fun hc26 => ?_) (fun hc26 => ?_)
        ·
          refine cd_skip ?_
          refine ax_then ?_
          refine At.regs (L' := [(0, _), (1, _), (2, _), (7, _), (8, _), (24, _), (25, _), (26, _)]) (.cons rfl (.cons rfl (.cons rfl (.cons rfl (.cons rfl (.cons rfl (.cons rfl (.cons rfl (.nil _))))))))) ?_
          refine cd_seq ?_
          refine cd_block ?_
          refine cd_seq ?_
          refine cd_region ?_
          refine st (ev_move rfl) rfl rfl rfl ?_
          refine st (ev_move rfl) rfl rfl rfl ?_
          refine st (ev_build_struct ty29 rfl pl29 rfl ((fill_put (i := 0) (off := 0) (n := 1) (vs := [.int .i64 (i : Nat)]) rfl rfl rfl (Nat.le_of_ble_eq_true rfl)).trans fill_nil)) rfl rfl rfl ?_
          refine at_eq (i := 31) (v' := .agg (List.toArray [.int .i64 (i : Nat), .slice none 0 0])) rfl rfl ?_
          refine st_call has8 rfl (fun w1 sw => send_emp b21 q l (i : Int) w1 ⟨by omega, by omega⟩ (by omega) ho (sw.blk_eq (h := 0) rfl) (sw.hold 1 _ rfl) (sw.apart 0 _ 1 _ rfl rfl (by decide) _ (by simp [Ent.ids]))) (mod_two rfl rfl) rfl rfl (fun x32 hx32 => ?_)
          obtain ⟨q2, l2⟩ := x32
          dsimp only at hx32 ⊢
          obtain ⟨e, he⟩ : ∃ e : Int, e = if l.length < 64 then 0 else 12 := ⟨_, rfl⟩
          refine at_eq (i := 32) (v' := .int .i64 e) rfl (by rw [he]) ?_
          have hee : e = 0 ↔ (i : Int) < 64 := by rw [he]; split <;> simp <;> omega
          have he12 : ¬ e = 0 → e = 12 := by rw [he]; split <;> simp
          refine st (ev_assign rfl) rfl rfl rfl ?_
          refine op_nil ?_
          refine ax_then ?_
          refine At.regs (L' := [(0, _), (1, _), (2, _), (7, _), (8, _), (9, _), (24, _), (25, _), (26, _), (29, _), (30, _), (31, _), (32, _)]) (.cons rfl (.cons rfl (.cons rfl (.cons rfl (.cons rfl (.cons rfl (.cons rfl (.cons rfl (.cons rfl (.cons rfl (.cons rfl (.cons rfl (.cons rfl (.nil _)))))))))))))) ?_
          refine cd_seq ?_
          refine cd_region ?_
          refine st (ev_move rfl) rfl rfl rfl ?_
          refine st (ev_eql rfl rfl) rfl rfl rfl ?_
          refine st (ev_move rfl) rfl rfl rfl ?_
          refine st (ev_lss rfl rfl) rfl rfl rfl ?_
          refine st (ev_neq_bool Try.underlying4 rfl rfl) rfl rfl rfl ?_
          refine st (ev_move rfl) rfl rfl rfl ?_
          refine at_eq (i := 38) (v' := .bool false) rfl (by rw [show decide (e = 0) = decide ((i : Int) < 64) from decide_eq_decide.2 hee, beq_self_eq_true]; rfl) ?_
          refine st (ev_move rfl) rfl rfl rfl ?_
          refine st (ev_neq rfl rfl) rfl rfl rfl ?_
          refine st (ev_move rfl) rfl rfl rfl ?_
          refine at_split_if (i := 41) rfl (fun hg41 => ?_) (fun hg41 => ?_)
          ·
            refine st (ev_move rfl) rfl rfl rfl ?_
            refine st (ev_neq rfl rfl) rfl rfl rfl ?_
            refine st (ev_pick_t rfl rfl) rfl rfl rfl ?_
            refine st (ev_pick_f rfl rfl) rfl rfl rfl ?_
            refine op_nil ?_
            refine ax_then ?_
            refine At.regs (L' := [(0, _), (1, _), (2, _), (7, _), (8, _), (9, _), (24, _), (25, _), (26, _), (29, _), (30, _), (31, _), (32, _), (33, _), (34, _), (35, _), (36, _), (37, _), (38, _), (39, _), (40, _), (41, _), (42, _), (43, _), (44, _), (45, _)]) (.cons rfl (.cons rfl (.cons rfl (.cons rfl (.cons rfl (.cons rfl (.cons rfl (.cons rfl (.cons rfl (.cons rfl (.cons rfl (.cons rfl (.cons rfl (.cons rfl (.cons rfl (.cons rfl (.cons rfl (.cons rfl (.cons rfl (.cons rfl (.cons rfl (.cons rfl (.cons rfl (.cons rfl (.cons rfl (.cons rfl (.nil _))))))))))))))))))))))))))) ?_
            refine cd_if_f rfl (fun h => h (he12 hg41)) ?_
            refine cd_skip ?_
            refine ax_block ?_
            refine ax_then ?_
            refine At.regs (L' := [(0, _), (1, _), (2, _), (7, _), (8, _), (9, _), (24, _), (25, _), (26, _), (29, _), (30, _), (31, _), (32, _), (33, _), (34, _), (35, _), (36, _), (37, _), (38, _), (39, _), (40, _), (41, _), (42, _), (43, _), (44, _), (45, _)]) (.cons rfl (.cons rfl (.cons rfl (.cons rfl (.cons rfl (.cons rfl (.cons rfl (.cons rfl (.cons rfl (.cons rfl (.cons rfl (.cons rfl (.cons rfl (.cons rfl (.cons rfl (.cons rfl (.cons rfl (.cons rfl (.cons rfl (.cons rfl (.cons rfl (.cons rfl (.cons rfl (.cons rfl (.cons rfl (.cons rfl (.nil _))))))))))))))))))))))))))) ?_
            refine cd_region ?_
            refine st (ev_move rfl) rfl rfl rfl ?_
            refine st (ev_add64 rfl rfl (by omega) (by omega)) rfl rfl rfl ?_
            refine st (ev_assign rfl) rfl rfl rfl ?_
            refine op_nil ?_
            exact at_again ((i + 1, q2, l2)) (⟨by show i + 1 ≤ n.toNat; omega, by show l2.length = min (i + 1) 64; rw [hx32.2]; split <;> omega, hx32.1⟩) (by show n.toNat - (i + 1) < n.toNat - i; omega) (.cons rfl (.cons rfl (.cons rfl (.cons rfl (.cons rfl (.nil _)))))) (.cons rfl (.cons rfl (.nil _))) (.cons rfl (.nil _))
          ·
            refine st_skip rfl rfl rfl ?_
            refine st_skip rfl rfl rfl ?_
            refine st (ev_pick_f rfl rfl) rfl rfl rfl ?_
            refine st (ev_pick_f rfl rfl) rfl rfl rfl ?_
            refine op_nil ?_
            refine ax_then ?_
            refine At.regs (L' := [(0, _), (1, _), (2, _), (7, _), (8, _), (9, _), (24, _), (25, _), (26, _), (29, _), (30, _), (31, _), (32, _), (33, _), (34, _), (35, _), (36, _), (37, _), (38, _), (39, _), (40, _), (41, _), (42, _), (43, _), (44, _), (45, _)]) (.cons rfl (.cons rfl (.cons rfl (.cons rfl (.cons rfl (.cons rfl (.cons rfl (.cons rfl (.cons rfl (.cons rfl (.cons rfl (.cons rfl (.cons rfl (.cons rfl (.cons rfl (.cons rfl (.cons rfl (.cons rfl (.cons rfl (.cons rfl (.cons rfl (.cons rfl (.cons rfl (.cons rfl (.cons rfl (.cons rfl (.nil _))))))))))))))))))))))))))) ?_
            refine cd_false rfl ?_
            refine cd_skip ?_
            refine ax_block ?_
            refine ax_then ?_
            refine At.regs (L' := [(0, _), (1, _), (2, _), (7, _), (8, _), (9, _), (24, _), (25, _), (26, _), (29, _), (30, _), (31, _), (32, _), (33, _), (34, _), (35, _), (36, _), (37, _), (38, _), (39, _), (40, _), (41, _), (42, _), (43, _), (44, _), (45, _)]) (.cons rfl (.cons rfl (.cons rfl (.cons rfl (.cons rfl (.cons rfl (.cons rfl (.cons rfl (.cons rfl (.cons rfl (.cons rfl (.cons rfl (.cons rfl (.cons rfl (.cons rfl (.cons rfl (.cons rfl (.cons rfl (.cons rfl (.cons rfl (.cons rfl (.cons rfl (.cons rfl (.cons rfl (.cons rfl (.cons rfl (.nil _))))))))))))))))))))))))))) ?_
            refine cd_region ?_
            refine st (ev_move rfl) rfl rfl rfl ?_
            refine st (ev_add64 rfl rfl (by omega) (by omega)) rfl rfl rfl ?_
            refine st (ev_assign rfl) rfl rfl rfl ?_
            refine op_nil ?_
            exact at_again ((i + 1, q2, l2)) (⟨by show i + 1 ≤ n.toNat; omega, by show l2.length = min (i + 1) 64; rw [hx32.2]; split <;> omega, hx32.1⟩) (by show n.toNat - (i + 1) < n.toNat - i; omega) (.cons rfl (.cons rfl (.cons rfl (.cons rfl (.cons rfl (.nil _)))))) (.cons rfl (.cons rfl (.nil _))) (.cons rfl (.nil _))
        ·
          refine cd_exit ?_
          refine ax_then_exit ?_
          refine ax_then_exit ?_
          refine ax_block_hit ?_
          refine ax_then ?_
          refine At.regs (L' := [(0, _), (1, _), (2, _), (7, _)]) (.cons rfl (.cons rfl (.cons rfl (.cons rfl (.nil _))))) ?_
          refine cd_seq ?_
          refine cd_seq ?_
          refine cd_region ?_
          refine st (ev_move rfl) rfl rfl rfl ?_
          refine st (ev_lss rfl rfl) rfl rfl rfl ?_
          refine st (ev_move rfl) rfl rfl rfl ?_
          refine at_split_if (i := 48) rfl (fun hg48 => ?_) (fun hg48 => ?_)
          ·
            refine st_skip rfl rfl rfl ?_
            refine st_skip rfl rfl rfl ?_
            refine st (ev_pick_t rfl rfl) rfl rfl rfl ?_
            refine st (ev_move rfl) rfl rfl rfl ?_
            refine st_skip rfl rfl rfl ?_
            refine st_skip rfl rfl rfl ?_
            refine st_skip rfl rfl rfl ?_
            refine st (ev_pick_t rfl rfl) rfl rfl rfl ?_
            refine st (ev_move rfl) rfl rfl rfl ?_
            refine st (ev_move rfl) rfl rfl rfl ?_
            refine st (ev_move rfl) rfl rfl rfl ?_
            refine st (ev_move rfl) rfl rfl rfl ?_
            refine st (ev_build_struct ty29 rfl pl29 rfl ((fill_put (i := 0) (off := 0) (n := 1) (vs := [.int .i64 id]) rfl rfl rfl (Nat.le_of_ble_eq_true rfl)).trans ((fill_put (i := 1) (off := 1) (n := 1) (vs := [dv]) rfl hsd.1 rfl (Nat.le_of_ble_eq_true rfl)).trans fill_nil))) rfl rfl rfl ?_
            refine at_eq (i := 61) (v' := .agg (List.toArray [.int .i64 id, dv])) rfl rfl ?_
            refine st_callv has8 rfl (fun w1 sw => send_arg b21 q (.int .i64 ((l.length : Nat) : Int)) dv l id data w1 (by omega) hdl (lies_blk (sw.blk_eq (h := 0) rfl)) (sw.own_rd (h := 1) rfl) (sw.sl_rd (h := 22) rfl)) rfl rfl ?_
            refine st (ev_neq rfl rfl) rfl rfl rfl ?_
            refine st (ev_pick_t rfl rfl) rfl rfl rfl ?_
            refine op_nil ?_
            refine ax_then ?_
            refine At.regs (L' := [(0, _), (7, _), (64, _)]) (.cons rfl (.cons rfl (.cons rfl (.nil _)))) ?_
            refine cd_if_f rfl (fun h => h rfl) ?_
            refine cd_skip ?_
            refine ax_then ?_
            refine At.regs (L' := [(0, _), (7, _)]) (.cons rfl (.cons rfl (.nil _))) ?_
            refine cd_seq ?_
            refine cd_region ?_
            refine st (ev_move rfl) rfl rfl rfl ?_
            refine st_callv has10 rfl (fun w1 sw => blen_any b21 q (.int .i64 ((l.length : Nat) : Int)) l w1 (lies_blk (sw.blk_eq (h := 0) rfl)) (sw.own_rd (h := 1) rfl)) rfl rfl ?_
            refine st (ev_move rfl) rfl rfl rfl ?_
            refine st (ev_min2 rfl rfl) rfl rfl rfl ?_
            refine st (ev_eql rfl rfl) rfl rfl rfl ?_
            refine st (ev_move rfl) rfl rfl rfl ?_
            refine at_eq (i := 70) (v' := .bool true) rfl (by simp only [Value.bool.injEq, decide_eq_true_eq, decide_eq_false_iff_not]; omega) ?_
            refine st_callv has11 rfl (fun w1 sw => known14_any w1) rfl rfl ?_
            refine st (ev_pick_t rfl rfl) rfl rfl rfl ?_
            refine st (ev_assign rfl) rfl rfl rfl ?_
            refine op_nil ?_
            refine ax_then ?_
            refine At.regs (L' := [(6, _)]) (.cons rfl (.nil _)) ?_
            refine cd_ret ?_
            refine rt_tmp (.inl rfl) Try.results4 rfl ?_
            exact fun w1 sw => ⟨rfl, sw.gives (.nil _)⟩
          ·
            refine st (ev_move rfl) rfl rfl rfl ?_
            refine st (ev_gtr rfl rfl) rfl rfl rfl ?_
            refine st (ev_pick_f rfl rfl) rfl rfl rfl ?_
            refine st (ev_move rfl) rfl rfl rfl ?_
            refine at_split_if (i := 52) rfl (fun hg52 => ?_) (fun hg52 => ?_)
            ·
              refine st_skip rfl rfl rfl ?_
              refine st_skip rfl rfl rfl ?_
              refine st_skip rfl rfl rfl ?_
              refine st (ev_pick_t rfl rfl) rfl rfl rfl ?_
              refine st (ev_move rfl) rfl rfl rfl ?_
              refine st (ev_move rfl) rfl rfl rfl ?_
              refine st (ev_move rfl) rfl rfl rfl ?_
              refine st (ev_move rfl) rfl rfl rfl ?_
              refine st (ev_build_struct ty29 rfl pl29 rfl ((fill_put (i := 0) (off := 0) (n := 1) (vs := [.int .i64 id]) rfl rfl rfl (Nat.le_of_ble_eq_true rfl)).trans ((fill_put (i := 1) (off := 1) (n := 1) (vs := [dv]) rfl hsd.1 rfl (Nat.le_of_ble_eq_true rfl)).trans fill_nil))) rfl rfl rfl ?_
              refine at_eq (i := 61) (v' := .agg (List.toArray [.int .i64 id, dv])) rfl rfl ?_
              refine st_callv has8 rfl (fun w1 sw => send_arg b21 q (.int .i64 ((l.length : Nat) : Int)) dv l id data w1 (by omega) hdl (lies_blk (sw.blk_eq (h := 0) rfl)) (sw.own_rd (h := 1) rfl) (sw.sl_rd (h := 22) rfl)) rfl rfl ?_
              refine st (ev_neq rfl rfl) rfl rfl rfl ?_
              refine st (ev_pick_t rfl rfl) rfl rfl rfl ?_
              refine op_nil ?_
              refine ax_then ?_
              refine At.regs (L' := [(0, _), (7, _), (64, _)]) (.cons rfl (.cons rfl (.cons rfl (.nil _)))) ?_
              refine cd_if_f rfl (fun h => h rfl) ?_
              refine cd_skip ?_
              refine ax_then ?_
              refine At.regs (L' := [(0, _), (7, _)]) (.cons rfl (.cons rfl (.nil _))) ?_
              refine cd_seq ?_
              refine cd_region ?_
              refine st (ev_move rfl) rfl rfl rfl ?_
              refine st_callv has10 rfl (fun w1 sw => blen_any b21 q (.int .i64 ((l.length : Nat) : Int)) l w1 (lies_blk (sw.blk_eq (h := 0) rfl)) (sw.own_rd (h := 1) rfl)) rfl rfl ?_
              refine st (ev_move rfl) rfl rfl rfl ?_
              refine st (ev_min2 rfl rfl) rfl rfl rfl ?_
              refine st (ev_eql rfl rfl) rfl rfl rfl ?_
              refine st (ev_move rfl) rfl rfl rfl ?_
              refine at_eq (i := 70) (v' := .bool true) rfl (by simp only [Value.bool.injEq, decide_eq_true_eq, decide_eq_false_iff_not]; omega) ?_
              refine st_callv has11 rfl (fun w1 sw => known14_any w1) rfl rfl ?_
              refine st (ev_pick_t rfl rfl) rfl rfl rfl ?_
              refine st (ev_assign rfl) rfl rfl rfl ?_
              refine op_nil ?_
              refine ax_then ?_
              refine At.regs (L' := [(6, _)]) (.cons rfl (.nil _)) ?_
              refine cd_ret ?_
              refine rt_tmp (.inl rfl) Try.results4 rfl ?_
              exact fun w1 sw => ⟨rfl, sw.gives (.nil _)⟩
            ·
              refine st (ev_move rfl) rfl rfl rfl ?_
              refine st (ev_len_rdi (h := 22) Try.underlying27 rfl rfl) rfl rfl rfl ?_
              refine st (ev_gtr rfl rfl) rfl rfl rfl ?_
              refine st (ev_pick_f rfl rfl) rfl rfl rfl ?_
              refine st (ev_move rfl) rfl rfl rfl ?_
              refine at_split_if (i := 57) rfl (fun hg57 => ?_) (fun hg57 => ?_)
              ·
                refine st (ev_move rfl) rfl rfl rfl ?_
                refine st (ev_move rfl) rfl rfl rfl ?_
                refine st (ev_move rfl) rfl rfl rfl ?_
                refine st (ev_build_struct ty29 rfl pl29 rfl ((fill_put (i := 0) (off := 0) (n := 1) (vs := [.int .i64 id]) rfl rfl rfl (Nat.le_of_ble_eq_true rfl)).trans ((fill_put (i := 1) (off := 1) (n := 1) (vs := [dv]) rfl hsd.1 rfl (Nat.le_of_ble_eq_true rfl)).trans fill_nil))) rfl rfl rfl ?_
                refine at_eq (i := 61) (v' := .agg (List.toArray [.int .i64 id, dv])) rfl rfl ?_
                refine st_callv has8 rfl (fun w1 sw => send_arg b21 q (.int .i64 ((l.length : Nat) : Int)) dv l id data w1 (by omega) hdl (lies_blk (sw.blk_eq (h := 0) rfl)) (sw.own_rd (h := 1) rfl) (sw.sl_rd (h := 22) rfl)) rfl rfl ?_
                refine st (ev_neq rfl rfl) rfl rfl rfl ?_
                refine st (ev_pick_t rfl rfl) rfl rfl rfl ?_
                refine op_nil ?_
                refine ax_then ?_
                refine At.regs (L' := [(0, _), (7, _), (64, _)]) (.cons rfl (.cons rfl (.cons rfl (.nil _)))) ?_
                refine cd_if_f rfl (fun h => h rfl) ?_
                refine cd_skip ?_
                refine ax_then ?_
                refine At.regs (L' := [(0, _), (7, _)]) (.cons rfl (.cons rfl (.nil _))) ?_
                refine cd_seq ?_
                refine cd_region ?_
                refine st (ev_move rfl) rfl rfl rfl ?_
                refine st_callv has10 rfl (fun w1 sw => blen_any b21 q (.int .i64 ((l.length : Nat) : Int)) l w1 (lies_blk (sw.blk_eq (h := 0) rfl)) (sw.own_rd (h := 1) rfl)) rfl rfl ?_
                refine st (ev_move rfl) rfl rfl rfl ?_
                refine st (ev_min2 rfl rfl) rfl rfl rfl ?_
                refine st (ev_eql rfl rfl) rfl rfl rfl ?_
                refine st (ev_move rfl) rfl rfl rfl ?_
                refine at_eq (i := 70) (v' := .bool true) rfl (by simp only [Value.bool.injEq, decide_eq_true_eq, decide_eq_false_iff_not]; omega) ?_
                refine st_callv has11 rfl (fun w1 sw => known14_any w1) rfl rfl ?_
                refine st (ev_pick_t rfl rfl) rfl rfl rfl ?_
                refine st (ev_assign rfl) rfl rfl rfl ?_
                refine op_nil ?_
                refine ax_then ?_
                refine At.regs (L' := [(6, _)]) (.cons rfl (.nil _)) ?_
                refine cd_ret ?_
                refine rt_tmp (.inl rfl) Try.results4 rfl ?_
                exact fun w1 sw => ⟨rfl, sw.gives (.nil _)⟩
              ·
                refine st_skip rfl rfl rfl ?_
                refine st_skip rfl rfl rfl ?_
                refine st_skip rfl rfl rfl ?_
                refine st_skip rfl rfl rfl ?_
                refine st_skip rfl rfl rfl ?_
                refine st_skip rfl rfl rfl ?_
                refine st (ev_pick_f rfl rfl) rfl rfl rfl ?_
                refine op_nil ?_
                refine ax_then ?_
                refine At.regs (L' := [(0, _), (7, _), (64, _)]) (.cons rfl (.cons rfl (.cons rfl (.nil _)))) ?_
                refine cd_false rfl ?_
                refine cd_skip ?_
                refine ax_then ?_
                refine At.regs (L' := [(0, _), (7, _)]) (.cons rfl (.cons rfl (.nil _))) ?_
                refine cd_seq ?_
                refine cd_region ?_
                refine st (ev_move rfl) rfl rfl rfl ?_
                refine st_callv has10 rfl (fun w1 sw => blen_any b21 q (.int .i64 ((l.length : Nat) : Int)) l w1 (lies_blk (sw.blk_eq (h := 0) rfl)) (sw.own_rd (h := 1) rfl)) rfl rfl ?_
                refine st (ev_move rfl) rfl rfl rfl ?_
                refine st (ev_min2 rfl rfl) rfl rfl rfl ?_
                refine st (ev_eql rfl rfl) rfl rfl rfl ?_
                refine st (ev_move rfl) rfl rfl rfl ?_
                refine at_eq (i := 70) (v' := .bool true) rfl (by simp only [Value.bool.injEq, decide_eq_true_eq, decide_eq_false_iff_not]; omega) ?_
                refine st_callv has11 rfl (fun w1 sw => known14_any w1) rfl rfl ?_
                refine st (ev_pick_t rfl rfl) rfl rfl rfl ?_
                refine st (ev_assign rfl) rfl rfl rfl ?_
                refine op_nil ?_
                refine ax_then ?_
                refine At.regs (L' := [(6, _)]) (.cons rfl (.nil _)) ?_
                refine cd_ret ?_
                refine rt_tmp (.inl rfl) Try.results4 rfl ?_
                exact fun w1 sw => ⟨rfl, sw.gives (.nil _)⟩
end Go.Proofs.Ytfddplpljjlgiaa

namespace Go.Proofs.Ytfddplpljjlgiaa
open Go Go.ChangeShapes Go.WideShapes Go.ChangeAt Go.RowKit Fw
set_option linter.unusedVariables false
theorem laid : laidOutB Try.prog = true := by kernel_rfl
namespace busFull
theorem own : ownKnob Try.prog.godebug = none := by kernel_rfl
set_option maxRecDepth 100000 in
theorem lifted (os : Os) (started : os.Started) (H : Type) (enc : TypeId × Value → H) :
    ReturnsInHanded {} Try.checked os 4 .any (Rows.busFullSpec.pre6 enc Try.prog Try.f4 Rows.busFullRow.domain false) (Rows.busFullSpec.post enc Try.prog Try.f4 false true false false) := by
  refine returnsInHanded_of_change_sized (C := Try.checked) own started (by kernel_rfl) Try.func4
    (ChangeSpec.witness6 (enc := enc) (C := Try.checked) false ⟨#[], #[.int .i64 0, .int .i64 0, .slice none 0 0], []⟩ 8 (by kernel_rfl) (by kernel_rfl) (by kernel_rfl) (by kernel_rfl)) ?_
  intro W base args ds gs before hval0 hW hcnd hsz _
  have hval : ∀ (j : Nat) t v, Try.f4.params[j]? = some t → args[j]? = some v → Value.okWide Try.prog W .any base t v := hval0
  have hW' := hW
  obtain ⟨p, q, hA0, hV, rfl, hfz, hnd⟩ := hW
  have hA : DataW.TrodAll enc Try.prog W 0 (fun _ => true) true Try.f4.params.toList args.toList ds p := hA0
  have hk := hA
  have hlt : ∀ x ∈ p, x.block < W.heap.size := fun x hx => hW'.lt x (List.mem_append.2 (.inl hx))
  rw [Try.params4] at hA hval hk
  obtain ⟨v0, vs0, d0, ds0, p0, q0, hargs, rfl, rfl, h0, r0⟩ := trodAll_cons hA
  obtain ⟨v1, vs1, d1, ds1, p1, q1, rfl, rfl, rfl, h1, r1⟩ := trodAll_cons r0
  obtain ⟨v2, vs2, d2, ds2, p2, q2, rfl, rfl, rfl, h2, r2⟩ := trodAll_cons r1
  obtain ⟨rfl, rfl, rfl⟩ := trodAll_nil r2
  obtain rfl : args = #[v0, v1, v2] := by cases args; simp_all
  obtain ⟨rfl, rfl⟩ := trodVars_none hV
  obtain ⟨a0, rfl, _, _, w0⟩ := open_int Try.underlying3 (hval 0 3 v0 rfl rfl) h0
  obtain ⟨a1, rfl, _, _, w1⟩ := open_int Try.underlying3 (hval 1 3 v1 rfl rfl) h1
  obtain ⟨l2, rd2, m2, b2⟩ := rd_ints Try.underlying27 Try.underlying5 (by kernel_rfl) (hval 2 27 v2 rfl rfl) h2 (light_of (j := 2) hsz rfl rfl)
  have len2 : l2.length ≤ 140737488351232 := by
    have h := m2
    rw [show Try.prog.bytesOf 5 = 1 from by kernel_rfl] at h
    have hr : reachBytes = 140737488351232 := rfl
    omega
  refine (busFull_any a0 a1 v2 l2 W len2 rd2).mono fun e W' ⟨he, g⟩ => ?_
  subst he
  have bel := g.below
  exact ⟨_, rfl, _, _, _, [], _, [], hW', trodAll_mk1 (shut_bool Try.underlying4 _), all_below laid bel _ _ _ _ (all_rows (by kernel_rfl)) hk hlt (fun x hx => by simpa using hlt x hx), rfl, bel.frame _, fun h => by cases h⟩
theorem over : Rows.busFullRow.holds Try.pinned (OpenSpec.ofChange Rows.busFullSpec) :=
  OpenClaim.holds_of_wide 4 Try.f4 rfl rfl rfl rfl rfl rfl rfl ⟨rfl, rfl, rfl, rfl, rfl⟩ rfl rfl rfl rfl rfl (by kernel_rfl) Try.func4 (by kernel_rfl)
    (of_decide_eq_true (by kernel_rfl)) (by unfold Func.isWrapper; first | (rw [if_pos (by decide +kernel)]; kernel_rfl) | (rw [if_neg (by decide +kernel)]; exact ⟨rfl, rfl⟩))
    (fun os started H enc _ => lifted os started H enc)
/-- The statement. -/
theorem proved : Rows.BusFullSaid := over
end busFull
end Go.Proofs.Ytfddplpljjlgiaa
