/- The statement's proof, part 2: what its walks and its plain laws need. -/
import Derived.Test.YtfddplpljjlgiaaRows
import Derived.Tactics
import Derived.Deep.Quiet
import Derived.StillTail
import Derived.Laws.World
import Derived.Laws.Sem
import Derived.Laws.Entries
import Derived.Below
import Derived.Deep.LoopGhost
import Derived.Laws.BytesString
import Derived.Laws.IdiomStrings
import Derived.KernelRfl
import Derived.Carry
import Derived.OpenShut
import Derived.ProofKit
import Derived.ChangeSame
import Derived.HandedShaped
import Derived.SizedLaws
import Derived.Test.YtfddplpljjlgiaaProg
import Derived.Shelf.SlSortCmp.InsertionK
import Derived.Shelf.SlSortFuncK.SWK
import Derived.Sort.AssemblyPlain
import Derived.Shelf.SlSortCmp.PdqK
import Derived.Laws.Strings
import Derived.Test.YtfddplpljjlgiaaXd1
namespace Go.Proofs.Ytfddplpljjlgiaa
open Go Go.RowKit Fw
open Bs
set_option linter.unusedVariables false
set_option linter.unusedSimpArgs false
theorem invLen {x  : Value} (w : World) : (invoke (.fn (.method "Len") #[]) (List.toArray [.iface 54 x])).run Try.prog w = .ok (.enter 63 (List.toArray [x])) w := by kernel_rfl
theorem invLess {x a0 a1 : Value} (w : World) : (invoke (.fn (.method "Less") #[]) (List.toArray [.iface 54 x, a0, a1])).run Try.prog w = .ok (.enter 64 (List.toArray [x, a0, a1])) w := by kernel_rfl
theorem invSwap {x a0 a1 : Value} (w : World) : (invoke (.fn (.method "Swap") #[]) (List.toArray [.iface 54 x, a0, a1])).run Try.prog w = .ok (.enter 67 (List.toArray [x, a0, a1])) w := by kernel_rfl
theorem invPush {x a0 : Value} (w : World) : (invoke (.fn (.method "Push") #[]) (List.toArray [.iface 54 x, a0])).run Try.prog w = .ok (.enter 66 (List.toArray [x, a0])) w := by kernel_rfl
theorem invPop {x  : Value} (w : World) : (invoke (.fn (.method "Pop") #[]) (List.toArray [.iface 54 x])).run Try.prog w = .ok (.enter 65 (List.toArray [x])) w := by kernel_rfl
set_option maxRecDepth 20000 in
set_option maxHeartbeats 1000000 in
theorem up_any (b : Nat) (qv c : Value) (l : List Bs.W) (j : Nat) (w : World) (hj : j < l.length) (hll : l.length ≤ 1000000) (ho : ∀ x, x ∈ l → x.dv.oneCell' = true) (hb : w.heap[b]? = some (.cells (List.toArray [qv, c]) 52)) (hv : Own w qv 57 3 (Bs.wflat l)) (hbv : b ∉ blkOf qv) : Calls Try.prog 25 #[.iface 54 (.pointer (some ⟨b, 0, none⟩)), .int .i64 (j : Nat)] w (Post (ι := Unit) w (b :: blkOf qv) (fun _ => True) (fun _ => .tuple #[]) (fun _ => [(0, .blk (b) (.cells ([qv, c]).toArray 52)), (1, .own (qv) 57 3 (Bs.wflat (Bs.upS l j)))])) := by
  refine calls_at (vs := [.iface 54 (.pointer (some ⟨b, 0, none⟩)), .int .i64 (j : Nat)]) (X := b :: blkOf qv) (H := [(0, .blk (b) (.cells ([qv, c]).toArray 52)), (1, .own (qv) 57 3 (Bs.wflat (l)))]) (F := []) 23 Try.func25 rfl rfl rfl (Sat.two 0 1 (by decide) hb hv hbv) ?_
  refine cd_block ?_
  refine cd_loop (ι := Nat × List Bs.W) (fun x => x.1 < x.2.length ∧ x.2.length = l.length ∧ (∀ y, y ∈ x.2 → y.dv.oneCell' = true) ∧ Bs.upS x.2 x.1 = Bs.upS l j) (fun x => x.1)
      (fun x => [(0, .iface 54 (.pointer (some ⟨b, 0, none⟩))), (1, .int .i64 (x.1 : Nat))])
      (fun x => [(0, .blk (b) (.cells ([qv, c]).toArray 52)), (1, .own (qv) 57 3 (Bs.wflat (x.2)))])
      (fun x => [])
      (j, l) (⟨hj, rfl, ho, rfl⟩) (.cons rfl (.cons rfl (.nil _))) (.cons rfl (.cons rfl (.nil _))) (.nil _) (fun x hi => ?_)
  obtain ⟨i, m⟩ := x
  dsimp only at hi ⊢
  have hi1 := hi.1
  have hi2 := hi.2.1
  refine cd_block ?_
  refine cd_seq ?_
  refine cd_region ?_
  refine st (ev_move rfl) rfl rfl rfl ?_
  refine st (ev_sub64 rfl rfl (by omega) (by omega)) rfl rfl rfl ?_
  refine st (ev_quo rfl rfl (by decide)) rfl rfl rfl ?_
  refine at_eq (i := 7) (v' := .int .i64 (((i - 1) / 2 : Nat) : Int)) rfl (congrArg (Value.int .i64) (Bs.par i (by omega))) ?_
  refine st (ev_assign rfl) rfl rfl rfl ?_
  refine op_nil ?_
  refine ax_then ?_
  refine At.regs (L' := [(0, _), (1, _), (4, _), (5, _), (6, _), (7, _)]) (.cons rfl (.cons rfl (.cons rfl (.cons rfl (.cons rfl (.cons rfl (.nil _))))))) ?_
  refine cd_seq ?_
  refine cd_seq ?_
  refine cd_region ?_
  refine st (ev_move rfl) rfl rfl rfl ?_
  refine st (ev_move rfl) rfl rfl rfl ?_
  refine st (ev_eql rfl rfl) rfl rfl rfl ?_
  refine st (ev_move rfl) rfl rfl rfl ?_
  refine at_split_if (i := 11) rfl (fun hg11 => ?_) (fun hg11 => ?_)
  ·
    refine st_skip rfl rfl rfl ?_
    refine st_skip rfl rfl rfl ?_
    refine st_skip rfl rfl rfl ?_
    refine st_skip rfl rfl rfl ?_
    refine st_skip rfl rfl rfl ?_
    refine st (ev_pick_t rfl rfl) rfl rfl rfl ?_
    refine op_nil ?_
    refine ax_then ?_
    refine At.regs (L' := [(0, _), (1, _), (4, _), (5, _), (6, _), (7, _), (8, _), (9, _), (10, _), (11, _), (12, _), (13, _), (14, _), (15, _), (16, _), (17, _)]) (.cons rfl (.cons rfl (.cons rfl (.cons rfl (.cons rfl (.cons rfl (.cons rfl (.cons rfl (.cons rfl (.cons rfl (.cons rfl (.cons rfl (.cons rfl (.cons rfl (.cons rfl (.cons rfl (.nil _))))))))))))))))) ?_
    refine cd_true rfl ?_
    refine cd_exit ?_
    refine ax_then_exit ?_
    refine ax_block_miss (by decide) ?_
    refine ax_then_exit ?_
    refine ax_block_hit ?_
    refine rt_none (.inr rfl) Try.results25 ?_
    exact fun w1 sw => ⟨(), trivial, rfl, by rw [show Bs.upS l j = m from hi.2.2.2.symm.trans (Bs.upS_stop (.inl (by omega)))]; exact sw.gives (N := [(0, _), (1, _)]) (.cons rfl (.cons rfl (.nil _)))⟩
  ·
    refine st (ev_move rfl) rfl rfl rfl ?_
    refine st (ev_move rfl) rfl rfl rfl ?_
    refine st (ev_move rfl) rfl rfl rfl ?_
    refine st_invv invLess rfl rfl (fun w1 sw => qless_any b qv c m i ((i - 1) / 2) w1 hi1 (by omega) hi.2.2.1 (lies_blk (sw.blk_eq (h := 0) rfl)) (sw.own_rd (h := 1) rfl)) rfl rfl ?_
    refine st (ev_not_if rfl) rfl rfl rfl ?_
    refine st (ev_pick_f rfl rfl) rfl rfl rfl ?_
    refine op_nil ?_
    refine ax_then ?_
    refine At.regs (L' := [(0, _), (1, _), (4, _), (5, _), (6, _), (7, _), (8, _), (9, _), (10, _), (11, _), (12, _), (13, _), (14, _), (15, _), (16, _), (17, _)]) (.cons rfl (.cons rfl (.cons rfl (.cons rfl (.cons rfl (.cons rfl (.cons rfl (.cons rfl (.cons rfl (.cons rfl (.cons rfl (.cons rfl (.cons rfl (.cons rfl (.cons rfl (.cons rfl (.nil _))))))))))))))))) ?_
    refine cd_if rfl (fun hc17 => ?_) (fun hc17 => ?_)
    ·
      refine cd_exit ?_
      refine ax_then_exit ?_
      refine ax_block_miss (by decide) ?_
      refine ax_then_exit ?_
      refine ax_block_hit ?_
      refine rt_none (.inr rfl) Try.results25 ?_
      exact fun w1 sw => ⟨(), trivial, rfl, by rw [show Bs.upS l j = m from hi.2.2.2.symm.trans (Bs.upS_stop (.inr hc17))]; exact sw.gives (N := [(0, _), (1, _)]) (.cons rfl (.cons rfl (.nil _)))⟩
    ·
      have hne : i ≠ 0 := by omega
      have hlss := Classical.not_not.1 hc17
      refine cd_skip ?_
      refine ax_then ?_
      refine At.regs (L' := [(0, _), (1, _), (4, _), (5, _), (6, _), (7, _), (8, _), (9, _), (10, _), (11, _), (12, _), (13, _), (14, _), (15, _), (16, _), (17, _)]) (.cons rfl (.cons rfl (.cons rfl (.cons rfl (.cons rfl (.cons rfl (.cons rfl (.cons rfl (.cons rfl (.cons rfl (.cons rfl (.cons rfl (.cons rfl (.cons rfl (.cons rfl (.cons rfl (.nil _))))))))))))))))) ?_
      refine cd_seq ?_
      refine cd_region ?_
      refine st (ev_move rfl) rfl rfl rfl ?_
      refine st (ev_move rfl) rfl rfl rfl ?_
      refine st (ev_move rfl) rfl rfl rfl ?_
      refine st_inv invSwap rfl rfl (fun w1 sw => qswap_any b qv c m ((i - 1) / 2) i w1 (by omega) hi1 hi.2.2.1 (sw.blk_eq (h := 0) rfl) (sw.hold 1 _ rfl) (sw.apart 0 _ 1 _ rfl rfl (by decide) _ (by simp [Ent.ids]))) (mod_two rfl rfl) rfl rfl (fun _ _ => ?_)
      refine op_nil ?_
      refine ax_then ?_
      refine At.regs (L' := [(0, _), (1, _), (4, _), (5, _), (6, _), (7, _), (8, _), (9, _), (10, _), (11, _), (12, _), (13, _), (14, _), (15, _), (16, _), (17, _), (18, _), (19, _), (20, _)]) (.cons rfl (.cons rfl (.cons rfl (.cons rfl (.cons rfl (.cons rfl (.cons rfl (.cons rfl (.cons rfl (.cons rfl (.cons rfl (.cons rfl (.cons rfl (.cons rfl (.cons rfl (.cons rfl (.cons rfl (.cons rfl (.cons rfl (.nil _)))))))))))))))))))) ?_
      refine cd_region ?_
      refine st (ev_move rfl) rfl rfl rfl ?_
      refine st (ev_assign rfl) rfl rfl rfl ?_
      refine op_nil ?_
      refine ax_block ?_
      exact at_again (((i - 1) / 2, Bs.swapS m ((i - 1) / 2) i)) (⟨by rw [Bs.swapS_len]; show (i - 1) / 2 < m.length; omega, by show (Bs.swapS m _ _).length = _; rw [Bs.swapS_len]; exact hi.2.1, Bs.swapS_one hi.2.2.1 (by omega) (by omega), by rw [← hi.2.2.2]; exact (Bs.upS_step hne hlss).symm⟩) (by show (i - 1) / 2 < i; omega) (.cons rfl (.cons rfl (.nil _))) (.cons rfl (.cons rfl (.nil _))) (.nil _)
set_option maxRecDepth 20000 in
set_option maxHeartbeats 2000000 in
theorem down_any (b : Nat) (qv c : Value) (l : List Bs.W) (i0 n : Nat) (w : World) (hi0 : i0 ≤ 1000000) (hn : n ≤ l.length) (hll : l.length ≤ 1000000) (ho : ∀ x, x ∈ l → x.dv.oneCell' = true) (hb : w.heap[b]? = some (.cells (List.toArray [qv, c]) 52)) (hv : Own w qv 57 3 (Bs.wflat l)) (hbv : b ∉ blkOf qv) : Calls Try.prog 27 #[.iface 54 (.pointer (some ⟨b, 0, none⟩)), .int .i64 (i0 : Nat), .int .i64 (n : Nat)] w (Post (ι := Bool) w (b :: blkOf qv) (fun _ => True) (fun x => .bool x) (fun _ => [(0, .blk (b) (.cells ([qv, c]).toArray 52)), (1, .own (qv) 57 3 (Bs.wflat (Bs.downS l i0 n)))])) := by
  refine calls_at (vs := [.iface 54 (.pointer (some ⟨b, 0, none⟩)), .int .i64 (i0 : Nat), .int .i64 (n : Nat)]) (X := b :: blkOf qv) (H := [(0, .blk (b) (.cells ([qv, c]).toArray 52)), (1, .own (qv) 57 3 (Bs.wflat (l)))]) (F := []) 48 Try.func27 rfl rfl rfl (Sat.two 0 1 (by decide) hb hv hbv) ?_
  refine cd_seq ?_
  refine cd_region ?_
  refine st (ev_assign rfl) rfl rfl rfl ?_
  refine op_nil ?_
  refine ax_then ?_
  refine At.regs (L' := [(0, _), (1, _), (2, _), (6, _)]) (.cons rfl (.cons rfl (.cons rfl (.cons rfl (.nil _))))) ?_
  refine cd_seq ?_
  refine cd_region ?_
  refine st (ev_move rfl) rfl rfl rfl ?_
  refine st (ev_assign rfl) rfl rfl rfl ?_
  refine op_nil ?_
  refine ax_then ?_
  refine At.regs (L' := [(0, _), (1, _), (2, _), (6, _), (7, _)]) (.cons rfl (.cons rfl (.cons rfl (.cons rfl (.cons rfl (.nil _)))))) ?_
  refine cd_seq ?_
  refine cd_block ?_
  refine cd_loop (ι := Nat × List Bs.W) (fun x => x.1 ≤ 1000000 ∧ x.2.length = l.length ∧ (∀ y, y ∈ x.2 → y.dv.oneCell' = true) ∧ Bs.downS x.2 x.1 n = Bs.downS l i0 n) (fun x => n - x.1)
      (fun x => [(0, .iface 54 (.pointer (some ⟨b, 0, none⟩))), (1, .int .i64 (i0 : Nat)), (2, .int .i64 (n : Nat)), (7, .int .i64 (x.1 : Nat))])
      (fun x => [(0, .blk (b) (.cells ([qv, c]).toArray 52)), (1, .own (qv) 57 3 (Bs.wflat (x.2)))])
      (fun x => [])
      (i0, l) (⟨hi0, rfl, ho, rfl⟩) (.cons rfl (.cons rfl (.cons rfl (.cons rfl (.nil _))))) (.cons rfl (.cons rfl (.nil _))) (.nil _) (fun x hi => ?_)
  obtain ⟨i, m⟩ := x
  dsimp only at hi ⊢
  have hi1 := hi.1
  have hi2 := hi.2.1
  refine cd_block ?_
  refine cd_seq ?_
  refine cd_region ?_
  refine st (ev_move rfl) rfl rfl rfl ?_
  refine st (ev_mul64 rfl rfl (by omega) (by omega)) rfl rfl rfl ?_
  refine st (ev_add64 rfl rfl (by omega) (by omega)) rfl rfl rfl ?_
  refine st (ev_assign rfl) rfl rfl rfl ?_
  refine op_nil ?_
  refine ax_then ?_
  refine At.regs (L' := [(0, _), (1, _), (2, _), (7, _), (8, _), (12, _), (13, _), (14, _)]) (.cons rfl (.cons rfl (.cons rfl (.cons rfl (.cons rfl (.cons rfl (.cons rfl (.cons rfl (.nil _))))))))) ?_
  refine cd_seq ?_
  refine cd_seq ?_
  refine cd_region ?_
  refine st (ev_move rfl) rfl rfl rfl ?_
  refine st (ev_move rfl) rfl rfl rfl ?_
  refine st (ev_geq rfl rfl) rfl rfl rfl ?_
  refine st (ev_move rfl) rfl rfl rfl ?_
  refine at_split_if (i := 18) rfl (fun hg18 => ?_) (fun hg18 => ?_)
  ·
    refine st_skip rfl rfl rfl ?_
    refine st_skip rfl rfl rfl ?_
    refine st (ev_pick_t rfl rfl) rfl rfl rfl ?_
    refine op_nil ?_
    refine ax_then ?_
    refine At.regs (L' := [(0, _), (1, _), (2, _), (7, _), (8, _), (12, _), (13, _), (14, _), (15, _), (16, _), (17, _), (18, _), (19, _), (20, _), (21, _)]) (.cons rfl (.cons rfl (.cons rfl (.cons rfl (.cons rfl (.cons rfl (.cons rfl (.cons rfl (.cons rfl (.cons rfl (.cons rfl (.cons rfl (.cons rfl (.cons rfl (.cons rfl (.nil _)))))))))))))))) ?_
    refine cd_true rfl ?_
    refine cd_exit ?_
    refine ax_then_exit ?_
    refine ax_block_miss (by decide) ?_
    refine ax_then_exit ?_
    refine ax_block_hit ?_
    refine ax_then ?_
    refine At.regs (L' := [(1, _), (7, _)]) (.cons rfl (.cons rfl (.nil _))) ?_
    refine cd_seq ?_
    refine cd_region ?_
    refine st (ev_move rfl) rfl rfl rfl ?_
    refine st (ev_move rfl) rfl rfl rfl ?_
    refine st (ev_gtr rfl rfl) rfl rfl rfl ?_
    refine st (ev_assign rfl) rfl rfl rfl ?_
    refine op_nil ?_
    refine ax_then ?_
    refine At.regs (L' := [(6, _)]) (.cons rfl (.nil _)) ?_
    refine cd_ret ?_
    refine rt_tmp (.inl rfl) Try.results27 rfl ?_
    exact fun w1 sw => ⟨_, trivial, rfl, by rw [show Bs.downS l i0 n = m from hi.2.2.2.symm.trans (Bs.downS_stop (by first | exact .inl (by omega) | exact .inr (by rw [← hj]; exact hc39)))]; exact sw.gives (N := [(0, _), (1, _)]) (.cons rfl (.cons rfl (.nil _)))⟩
  ·
    have hlt : 2 * i + 1 < n := by omega
    refine st (ev_move rfl) rfl rfl rfl ?_
    refine st (ev_lss rfl rfl) rfl rfl rfl ?_
    refine st (ev_pick_f rfl rfl) rfl rfl rfl ?_
    refine op_nil ?_
    refine ax_then ?_
    refine At.regs (L' := [(0, _), (1, _), (2, _), (7, _), (8, _), (12, _), (13, _), (14, _), (15, _), (16, _), (17, _), (18, _), (19, _), (20, _), (21, _)]) (.cons rfl (.cons rfl (.cons rfl (.cons rfl (.cons rfl (.cons rfl (.cons rfl (.cons rfl (.cons rfl (.cons rfl (.cons rfl (.cons rfl (.cons rfl (.cons rfl (.cons rfl (.nil _)))))))))))))))) ?_
    refine cd_if_f rfl (by omega) ?_
    refine cd_skip ?_
    refine ax_then ?_
    refine At.regs (L' := [(0, _), (1, _), (2, _), (7, _), (8, _), (12, _), (13, _), (14, _), (15, _), (16, _), (17, _), (18, _), (19, _), (20, _), (21, _)]) (.cons rfl (.cons rfl (.cons rfl (.cons rfl (.cons rfl (.cons rfl (.cons rfl (.cons rfl (.cons rfl (.cons rfl (.cons rfl (.cons rfl (.cons rfl (.cons rfl (.cons rfl (.nil _)))))))))))))))) ?_
    refine cd_seq ?_
    refine cd_region ?_
    refine st (ev_move rfl) rfl rfl rfl ?_
    refine st (ev_assign rfl) rfl rfl rfl ?_
    refine op_nil ?_
    refine ax_then ?_
    refine At.regs (L' := [(0, _), (1, _), (2, _), (7, _), (8, _), (9, _), (12, _), (13, _), (14, _), (15, _), (16, _), (17, _), (18, _), (19, _), (20, _), (21, _), (22, _)]) (.cons rfl (.cons rfl (.cons rfl (.cons rfl (.cons rfl (.cons rfl (.cons rfl (.cons rfl (.cons rfl (.cons rfl (.cons rfl (.cons rfl (.cons rfl (.cons rfl (.cons rfl (.cons rfl (.cons rfl (.nil _)))))))))))))))))) ?_
    refine cd_join (ι := Nat) (fun k => k = Bs.child m i n) (fun k => [(0, .iface 54 (.pointer (some ⟨b, 0, none⟩))), (1, .int .i64 (i0 : Nat)), (2, .int .i64 (n : Nat)), (7, .int .i64 (i : Nat)), (9, .int .i64 (k : Nat))]) (fun k => [(0, .blk (b) (.cells ([qv, c]).toArray 52)), (1, .own (qv) 57 3 (Bs.wflat (m)))]) (fun k => []) ?_ (fun k hj => ?_)
    ·
      refine cd_seq ?_
      refine cd_region ?_
      refine st (ev_move rfl) rfl rfl rfl ?_
      refine st (ev_add64 rfl rfl (by omega) (by omega)) rfl rfl rfl ?_
      refine st (ev_assign rfl) rfl rfl rfl ?_
      refine op_nil ?_
      refine ax_then ?_
      refine At.regs (L' := [(0, _), (1, _), (2, _), (7, _), (8, _), (9, _), (10, _), (12, _), (13, _), (14, _), (15, _), (16, _), (17, _), (18, _), (19, _), (20, _), (21, _), (22, _), (23, _), (24, _)]) (.cons rfl (.cons rfl (.cons rfl (.cons rfl (.cons rfl (.cons rfl (.cons rfl (.cons rfl (.cons rfl (.cons rfl (.cons rfl (.cons rfl (.cons rfl (.cons rfl (.cons rfl (.cons rfl (.cons rfl (.cons rfl (.cons rfl (.cons rfl (.nil _))))))))))))))))))))) ?_
      refine cd_seq ?_
      refine cd_region ?_
      refine st (ev_move rfl) rfl rfl rfl ?_
      refine st (ev_move rfl) rfl rfl rfl ?_
      refine st (ev_lss rfl rfl) rfl rfl rfl ?_
      refine st (ev_move rfl) rfl rfl rfl ?_
      refine at_split_if (i := 28) rfl (fun hg28 => ?_) (fun hg28 => ?_)
      ·
        refine st (ev_move rfl) rfl rfl rfl ?_
        refine st (ev_move rfl) rfl rfl rfl ?_
        refine st (ev_move rfl) rfl rfl rfl ?_
        refine st_invv invLess rfl rfl (fun w1 sw => qless_any b qv c m (2 * i + 1 + 1) (2 * i + 1) w1 (by omega) (by omega) hi.2.2.1 (lies_blk (sw.blk_eq (h := 0) rfl)) (sw.own_rd (h := 1) rfl)) rfl rfl ?_
        refine st (ev_pick_t rfl rfl) rfl rfl rfl ?_
        refine op_nil ?_
        refine ax_then ?_
        refine At.regs (L' := [(0, _), (1, _), (2, _), (7, _), (8, _), (9, _), (10, _), (12, _), (13, _), (14, _), (15, _), (16, _), (17, _), (18, _), (19, _), (20, _), (21, _), (22, _), (23, _), (24, _), (25, _), (26, _), (27, _), (28, _), (29, _), (30, _), (31, _), (32, _), (33, _)]) (.cons rfl (.cons rfl (.cons rfl (.cons rfl (.cons rfl (.cons rfl (.cons rfl (.cons rfl (.cons rfl (.cons rfl (.cons rfl (.cons rfl (.cons rfl (.cons rfl (.cons rfl (.cons rfl (.cons rfl (.cons rfl (.cons rfl (.cons rfl (.cons rfl (.cons rfl (.cons rfl (.cons rfl (.cons rfl (.cons rfl (.cons rfl (.cons rfl (.cons rfl (.nil _)))))))))))))))))))))))))))))) ?_
        refine cd_if rfl (fun hc33 => ?_) (fun hc33 => ?_)
        ·
          refine cd_region ?_
          refine st (ev_move rfl) rfl rfl rfl ?_
          refine st (ev_assign rfl) rfl rfl rfl ?_
          refine op_nil ?_
          first | exact at_met (2 * i + 1 + 1) (by rw [Bs.child, if_pos ⟨by omega, hc33⟩]) (.cons rfl (.cons rfl (.cons rfl (.cons rfl (.cons rfl (.nil _)))))) (.cons rfl (.cons rfl (.nil _))) (.nil _) | exact at_met (2 * i + 1) (by rw [Bs.child, if_neg (fun hh => hc33 hh.2)]) (.cons rfl (.cons rfl (.cons rfl (.cons rfl (.cons rfl (.nil _)))))) (.cons rfl (.cons rfl (.nil _))) (.nil _) | exact at_met (2 * i + 1) (by rw [Bs.child, if_neg (fun hh => by omega)]) (.cons rfl (.cons rfl (.cons rfl (.cons rfl (.cons rfl (.nil _)))))) (.cons rfl (.cons rfl (.nil _))) (.nil _)
        ·
          refine cd_skip ?_
          first | exact at_met (2 * i + 1 + 1) (by rw [Bs.child, if_pos ⟨by omega, hc33⟩]) (.cons rfl (.cons rfl (.cons rfl (.cons rfl (.cons rfl (.nil _)))))) (.cons rfl (.cons rfl (.nil _))) (.nil _) | exact at_met (2 * i + 1) (by rw [Bs.child, if_neg (fun hh => hc33 hh.2)]) (.cons rfl (.cons rfl (.cons rfl (.cons rfl (.cons rfl (.nil _)))))) (.cons rfl (.cons rfl (.nil _))) (.nil _) | exact at_met (2 * i + 1) (by rw [Bs.child, if_neg (fun hh => by omega)]) (.cons rfl (.cons rfl (.cons rfl (.cons rfl (.cons rfl (.nil _)))))) (.cons rfl (.cons rfl (.nil _))) (.nil _)
      ·
        refine st_skip rfl rfl rfl ?_
        refine st_skip rfl rfl rfl ?_
        refine st_skip rfl rfl rfl ?_
        refine st_skip rfl rfl rfl ?_
        refine st (ev_pick_f rfl rfl) rfl rfl rfl ?_
        refine op_nil ?_
        refine ax_then ?_
        refine At.regs (L' := [(0, _), (1, _), (2, _), (7, _), (8, _), (9, _), (10, _), (12, _), (13, _), (14, _), (15, _), (16, _), (17, _), (18, _), (19, _), (20, _), (21, _), (22, _), (23, _), (24, _), (25, _), (26, _), (27, _), (28, _), (29, _), (30, _), (31, _), (32, _), (33, _)]) (.cons rfl (.cons rfl (.cons rfl (.cons rfl (.cons rfl (.cons rfl (.cons rfl (.cons rfl (.cons rfl (.cons rfl (.cons rfl (.cons rfl (.cons rfl (.cons rfl (.cons rfl (.cons rfl (.cons rfl (.cons rfl (.cons rfl (.cons rfl (.cons rfl (.cons rfl (.cons rfl (.cons rfl (.cons rfl (.cons rfl (.cons rfl (.cons rfl (.cons rfl (.nil _)))))))))))))))))))))))))))))) ?_
        refine cd_false rfl ?_
        refine cd_skip ?_
        first | exact at_met (2 * i + 1 + 1) (by rw [Bs.child, if_pos ⟨by omega, hc33⟩]) (.cons rfl (.cons rfl (.cons rfl (.cons rfl (.cons rfl (.nil _)))))) (.cons rfl (.cons rfl (.nil _))) (.nil _) | exact at_met (2 * i + 1) (by rw [Bs.child, if_neg (fun hh => hc33 hh.2)]) (.cons rfl (.cons rfl (.cons rfl (.cons rfl (.cons rfl (.nil _)))))) (.cons rfl (.cons rfl (.nil _))) (.nil _) | exact at_met (2 * i + 1) (by rw [Bs.child, if_neg (fun hh => by omega)]) (.cons rfl (.cons rfl (.cons rfl (.cons rfl (.cons rfl (.nil _)))))) (.cons rfl (.cons rfl (.nil _))) (.nil _)
    ·
      have hkg := Bs.child_gt m i n
      have hkl := Bs.child_lt (l := m) hlt
      rw [← hj] at hkg hkl
      refine cd_seq ?_
      refine cd_seq ?_
      refine cd_region ?_
      refine st (ev_move rfl) rfl rfl rfl ?_
      refine st (ev_move rfl) rfl rfl rfl ?_
      refine st (ev_move rfl) rfl rfl rfl ?_
      refine st_invv invLess rfl rfl (fun w1 sw => qless_any b qv c m k i w1 (by omega) (by omega) hi.2.2.1 (lies_blk (sw.blk_eq (h := 0) rfl)) (sw.own_rd (h := 1) rfl)) rfl rfl ?_
      refine st (ev_not_if rfl) rfl rfl rfl ?_
      refine op_nil ?_
      refine ax_then ?_
      refine At.regs (L' := [(0, _), (1, _), (2, _), (7, _), (9, _), (35, _), (36, _), (37, _), (38, _), (39, _)]) (.cons rfl (.cons rfl (.cons rfl (.cons rfl (.cons rfl (.cons rfl (.cons rfl (.cons rfl (.cons rfl (.cons rfl (.nil _))))))))))) ?_
      refine cd_if rfl (fun hc39 => ?_) (fun hc39 => ?_)
      ·
        refine cd_exit ?_
        refine ax_then_exit ?_
        refine ax_block_miss (by decide) ?_
        refine ax_then_exit ?_
        refine ax_block_hit ?_
        refine ax_then ?_
        refine At.regs (L' := [(1, _), (7, _)]) (.cons rfl (.cons rfl (.nil _))) ?_
        refine cd_seq ?_
        refine cd_region ?_
        refine st (ev_move rfl) rfl rfl rfl ?_
        refine st (ev_move rfl) rfl rfl rfl ?_
        refine st (ev_gtr rfl rfl) rfl rfl rfl ?_
        refine st (ev_assign rfl) rfl rfl rfl ?_
        refine op_nil ?_
        refine ax_then ?_
        refine At.regs (L' := [(6, _)]) (.cons rfl (.nil _)) ?_
        refine cd_ret ?_
        refine rt_tmp (.inl rfl) Try.results27 rfl ?_
        exact fun w1 sw => ⟨_, trivial, rfl, by rw [show Bs.downS l i0 n = m from hi.2.2.2.symm.trans (Bs.downS_stop (by first | exact .inl (by omega) | exact .inr (by rw [← hj]; exact hc39)))]; exact sw.gives (N := [(0, _), (1, _)]) (.cons rfl (.cons rfl (.nil _)))⟩
      ·
        have hlss := Classical.not_not.1 hc39
        have hstep : Bs.downS m i n = Bs.downS (Bs.swapS m i k) k n := by rw [hj]; exact Bs.downS_step hlt (by rw [← hj]; exact hlss)
        refine cd_skip ?_
        refine ax_then ?_
        refine At.regs (L' := [(0, _), (1, _), (2, _), (7, _), (9, _), (35, _), (36, _), (37, _), (38, _), (39, _)]) (.cons rfl (.cons rfl (.cons rfl (.cons rfl (.cons rfl (.cons rfl (.cons rfl (.cons rfl (.cons rfl (.cons rfl (.nil _))))))))))) ?_
        refine cd_seq ?_
        refine cd_region ?_
        refine st (ev_move rfl) rfl rfl rfl ?_
        refine st (ev_move rfl) rfl rfl rfl ?_
        refine st (ev_move rfl) rfl rfl rfl ?_
        refine st_inv invSwap rfl rfl (fun w1 sw => qswap_any b qv c m i k w1 (by omega) (by omega) hi.2.2.1 (sw.blk_eq (h := 0) rfl) (sw.hold 1 _ rfl) (sw.apart 0 _ 1 _ rfl rfl (by decide) _ (by simp [Ent.ids]))) (mod_two rfl rfl) rfl rfl (fun _ _ => ?_)
        refine op_nil ?_
        refine ax_then ?_
        refine At.regs (L' := [(0, _), (1, _), (2, _), (7, _), (9, _), (35, _), (36, _), (37, _), (38, _), (39, _), (40, _), (41, _), (42, _)]) (.cons rfl (.cons rfl (.cons rfl (.cons rfl (.cons rfl (.cons rfl (.cons rfl (.cons rfl (.cons rfl (.cons rfl (.cons rfl (.cons rfl (.cons rfl (.nil _)))))))))))))) ?_
        refine cd_region ?_
        refine st (ev_move rfl) rfl rfl rfl ?_
        refine st (ev_assign rfl) rfl rfl rfl ?_
        refine op_nil ?_
        refine ax_block ?_
        exact at_again ((k, Bs.swapS m i k)) (⟨by show k ≤ 1000000; omega, by show (Bs.swapS m _ _).length = _; rw [Bs.swapS_len]; exact hi.2.1, Bs.swapS_one hi.2.2.1 (by omega) (by omega), by rw [← hi.2.2.2]; exact hstep.symm⟩) (by show n - k < n - i; omega) (.cons rfl (.cons rfl (.cons rfl (.cons rfl (.nil _))))) (.cons rfl (.cons rfl (.nil _))) (.nil _)
end Go.Proofs.Ytfddplpljjlgiaa

namespace Go.Proofs.Ytfddplpljjlgiaa
open Go Go.RowKit Fw
open Bs
set_option linter.unusedVariables false
set_option linter.unusedSimpArgs false
set_option maxRecDepth 20000 in
set_option maxHeartbeats 2000000 in
theorem qpush_any (b : Nat) (qv c : Value) (l : List Bs.W) (x : Bs.W) (w : World) (hx : x.dv.oneCell' = true) (hll : l.length ≤ 100000) (hb : w.heap[b]? = some (.cells (List.toArray [qv, c]) 52)) (hv : Own w qv 57 3 (Bs.wflat l)) (hbv : b ∉ blkOf qv) : Calls Try.prog 66 #[.pointer (some ⟨b, 0, none⟩), .iface 57 (.agg (List.toArray [.int .i64 x.id, x.dv, .int .i64 x.came]))] w (Post (ι := Value) w (b :: blkOf qv) (fun _ => True) (fun _ => .tuple #[]) (fun v => [(0, .blk (b) (.cells ([v, c]).toArray 52)), (1, .own (v) 57 3 (Bs.wflat (l ++ [x])))])) := by
  refine calls_at (vs := [.pointer (some ⟨b, 0, none⟩), .iface 57 (.agg (List.toArray [.int .i64 x.id, x.dv, .int .i64 x.came]))]) (X := b :: blkOf qv) (H := [(0, .blk (b) (.cells ([qv, c]).toArray 52)), (1, .own (qv) 57 3 (Bs.wflat (l)))]) (F := []) 20 Try.func66 rfl rfl rfl (Sat.two 0 1 (by decide) hb hv hbv) ?_
  refine cd_seq ?_
  refine cd_region ?_
  refine st (ev_move rfl) rfl rfl rfl ?_
  refine st (ev_assert Try.underlying57 rfl rfl) rfl rfl rfl ?_
  refine st (ev_move rfl) rfl rfl rfl ?_
  refine st (ev_extract rfl rfl) rfl rfl rfl ?_
  refine st (ev_extract rfl rfl) rfl rfl rfl ?_
  refine st_alloc (h := 4) ty57 rfl rfl rfl (fun b4 => ?_)
  refine st_store_all 4 ty57 rfl rfl rfl rfl rfl (by intro u0 hu0; simp only [List.mem_cons, List.not_mem_nil, or_false] at hu0; rcases hu0 with rfl | rfl | rfl; rfl; exact hx; rfl) rfl rfl ?_
  refine st (ev_assign rfl) rfl rfl rfl ?_
  refine op_nil ?_
  refine ax_then ?_
  refine At.regs (L' := [(0, _), (4, _), (5, _)]) (.cons rfl (.cons rfl (.cons rfl (.nil _)))) ?_
  refine cd_seq ?_
  refine cd_region ?_
  refine st (ev_move rfl) rfl rfl rfl ?_
  refine op_nil ?_
  refine ax_then ?_
  refine At.regs (L' := [(0, _), (4, _), (11, _)]) (.cons rfl (.cons rfl (.cons rfl (.nil _)))) ?_
  refine cd_true rfl ?_
  refine at_freeze_blk (h := 4) (H' := [(0, _), (1, _)]) 4 rfl (.cons rfl (.cons rfl (.nil _))) rfl ?_
  refine cd_mix hmix ?_
  refine mx (i := 0) rfl (by decide +kernel) (by decide +kernel) (by decide +kernel) rfl (fun w0 => ev_move rfl) rfl rfl (Sub.refl _) ?_
  refine mx (i := 1) rfl (by decide +kernel) (by decide +kernel) (by decide +kernel) rfl (fun w0 => ev_move rfl) rfl rfl (Sub.refl _) ?_
  refine mx (i := 2) rfl (by decide +kernel) (by decide +kernel) (by decide +kernel) rfl (fun w0 => ev_nilCheck rfl) rfl rfl (Sub.refl _) ?_
  refine mx (i := 4) rfl (by decide +kernel) (by decide +kernel) (by decide +kernel) rfl (fun w0 => ld_mem_all (h := 4) ty57 rfl rfl rfl rfl) rfl rfl (Sub.refl _) ?_
  refine mx_two (i := 3) (j := 5) (by decide +kernel) (Sub.refl _) ?_ ?_
  ·
    refine wo (i := 3) rfl ?_
    refine st (ld_blk1 (h := 0) ty50 rfl rfl rfl rfl) rfl rfl rfl ?_
    refine op_nil ?_
    refine ax_then ?_
    refine mx_one (i := 5) (by decide +kernel) (Sub.refl _) ?_
    refine wo (i := 5) rfl ?_
    refine st_bs1 (h := 17) (cs := Bs.wcells x) Try.underlying50 ty57 rfl rfl rfl (by decide) (by decide) rfl rfl (fun b17 => ?_)
    refine op_nil ?_
    refine ax_then ?_
    refine mx_one (i := 6) (by decide +kernel) (Sub.refl _) ?_
    refine wo (i := 6) rfl ?_
    refine st_append (n := l.length) (m := 1) (h := 1) (cs := Bs.wcells x) Try.underlying50 Try.underlying50 ty57 rfl rfl rfl rfl (fun w1 sw => sw.own_rd (h := 17) rfl) (by decide) (Bs.wflat_len l) rfl (by omega) (by decide) (Bs.wcells_one hx) rfl rfl (fun v18 => ?_)
    refine at_heq (i := 1) (v' := .own (v18) 57 3 (Bs.wflat (l ++ [x]))) rfl (by rw [Bs.wflat_snoc]) ?_
    refine at_own_shape (h := 1) rfl (fun hs18 => ?_)
    refine op_nil ?_
    refine ax_then ?_
    refine mx (i := 7) rfl (by decide +kernel) (by decide +kernel) (by decide +kernel) rfl (fun w0 => ev_nilCheck rfl) rfl rfl (Sub.refl _) ?_
    refine mx_one (i := 8) (by decide +kernel) (Sub.refl _) ?_
    refine wo (i := 8) rfl ?_
    refine st_store1 0 ty50 rfl rfl rfl hs18.2 (show 0 < 2 from by decide) rfl ?_
    refine at_heq (i := 0) (v' := .blk (b) (.cells ([v18, c]).toArray 52)) rfl rfl ?_
    refine op_nil ?_
    refine ax_then ?_
    refine mx_done (by decide +kernel) (Sub.refl _) ?_
    refine rt_none (.inr rfl) Try.results66 ?_
    exact fun w1 sw => ⟨v18, trivial, rfl, sw.gives (N := [(0, _), (1, _)]) (.cons rfl (.cons rfl (.nil _)))⟩
  ·
    refine wo (i := 5) rfl ?_
    refine st_bs1 (h := 17) (cs := Bs.wcells x) Try.underlying50 ty57 rfl rfl rfl (by decide) (by decide) rfl rfl (fun b17 => ?_)
    refine op_nil ?_
    refine ax_then ?_
    refine mx_one (i := 3) (by decide +kernel) (Sub.refl _) ?_
    refine wo (i := 3) rfl ?_
    refine st (ld_blk1 (h := 0) ty50 rfl rfl rfl rfl) rfl rfl rfl ?_
    refine op_nil ?_
    refine ax_then ?_
    refine mx_one (i := 6) (by decide +kernel) (Sub.refl _) ?_
    refine wo (i := 6) rfl ?_
    refine st_append (n := l.length) (m := 1) (h := 1) (cs := Bs.wcells x) Try.underlying50 Try.underlying50 ty57 rfl rfl rfl rfl (fun w1 sw => sw.own_rd (h := 17) rfl) (by decide) (Bs.wflat_len l) rfl (by omega) (by decide) (Bs.wcells_one hx) rfl rfl (fun v18 => ?_)
    refine at_heq (i := 1) (v' := .own (v18) 57 3 (Bs.wflat (l ++ [x]))) rfl (by rw [Bs.wflat_snoc]) ?_
    refine at_own_shape (h := 1) rfl (fun hs18 => ?_)
    refine op_nil ?_
    refine ax_then ?_
    refine mx (i := 7) rfl (by decide +kernel) (by decide +kernel) (by decide +kernel) rfl (fun w0 => ev_nilCheck rfl) rfl rfl (Sub.refl _) ?_
    refine mx_one (i := 8) (by decide +kernel) (Sub.refl _) ?_
    refine wo (i := 8) rfl ?_
    refine st_store1 0 ty50 rfl rfl rfl hs18.2 (show 0 < 2 from by decide) rfl ?_
    refine at_heq (i := 0) (v' := .blk (b) (.cells ([v18, c]).toArray 52)) rfl rfl ?_
    refine op_nil ?_
    refine ax_then ?_
    refine mx_done (by decide +kernel) (Sub.refl _) ?_
    refine rt_none (.inr rfl) Try.results66 ?_
    exact fun w1 sw => ⟨v18, trivial, rfl, sw.gives (N := [(0, _), (1, _)]) (.cons rfl (.cons rfl (.nil _)))⟩
set_option maxRecDepth 20000 in
set_option maxHeartbeats 2000000 in
theorem qpop_any (b : Nat) (qv c : Value) (l : List Bs.W) (w : World) (hpos : 0 < l.length) (hll : l.length ≤ 100000) (ho : ∀ x, x ∈ l → x.dv.oneCell' = true) (hb : w.heap[b]? = some (.cells (List.toArray [qv, c]) 52)) (hv : Own w qv 57 3 (Bs.wflat l)) (hbv : b ∉ blkOf qv) : Calls Try.prog 65 #[.pointer (some ⟨b, 0, none⟩)] w (Post (ι := Unit) w (b :: blkOf qv) (fun _ => True) (fun _ => .iface 57 (.agg (List.toArray [.int .i64 (l.getD (l.length - 1) Bs.w0).id, (l.getD (l.length - 1) Bs.w0).dv, .int .i64 (l.getD (l.length - 1) Bs.w0).came]))) (fun _ => [(0, .blk (b) (.cells ([(cutAt 3 qv 0 (l.length - 1)), c]).toArray 52)), (1, .own ((cutAt 3 qv 0 (l.length - 1))) 57 3 (Bs.wflat ((l.take (l.length - 1)))))])) := by
  refine calls_at (vs := [.pointer (some ⟨b, 0, none⟩)]) (X := b :: blkOf qv) (H := [(0, .blk (b) (.cells ([qv, c]).toArray 52)), (1, .own (qv) 57 3 (Bs.wflat (l)))]) (F := []) 25 Try.func65 rfl rfl rfl (Sat.two 0 1 (by decide) hb hv hbv) ?_
  refine cd_seq ?_
  refine cd_region ?_
  refine st (ev_assign rfl) rfl rfl rfl ?_
  refine op_nil ?_
  refine ax_then ?_
  refine At.regs (L' := [(0, _), (2, _)]) (.cons rfl (.cons rfl (.nil _))) ?_
  refine cd_seq ?_
  refine cd_region ?_
  refine st (ev_move rfl) rfl rfl rfl ?_
  refine st (ev_nilCheck rfl) rfl rfl rfl ?_
  refine st (ld_blk1 (h := 0) ty50 rfl rfl rfl rfl) rfl rfl rfl ?_
  refine st (ev_len_own (h := 1) (n := l.length) Try.underlying50 rfl rfl (Bs.wflat_len l) (by decide)) rfl rfl rfl ?_
  refine st (ev_sub64 rfl rfl (by omega) (by omega)) rfl rfl rfl ?_
  refine st (ev_assign rfl) rfl rfl rfl ?_
  refine op_nil ?_
  refine ax_then ?_
  refine At.regs (L' := [(0, _), (2, _), (3, _)]) (.cons rfl (.cons rfl (.cons rfl (.nil _)))) ?_
  refine cd_seq ?_
  refine cd_region ?_
  refine st (ev_move rfl) rfl rfl rfl ?_
  refine st (ev_nilCheck rfl) rfl rfl rfl ?_
  refine st (ld_blk1 (h := 0) ty50 rfl rfl rfl rfl) rfl rfl rfl ?_
  refine st (ev_move rfl) rfl rfl rfl ?_
  refine st (ev_indexAddr_own (h := 1) (n := l.length) Try.underlying50 ty57 rfl rfl rfl (Bs.wflat_len l) (by decide) (by omega) (by omega)) rfl rfl rfl ?_
  refine st (ld_own (k := ((l.length : Int) - 1).toNat * 3) (h := 1) ty57 rfl rfl rfl (by decide) (by rw [Bs.wflat_len]; omega)) rfl rfl rfl ?_
  refine at_eq (i := 15) (v' := .agg (List.toArray [.int .i64 (l.getD (l.length - 1) Bs.w0).id, (l.getD (l.length - 1) Bs.w0).dv, .int .i64 (l.getD (l.length - 1) Bs.w0).came])) rfl (congrArg (fun x => Value.agg (List.toArray x)) (by rw [show ((l.length : Int) - 1).toNat = l.length - 1 by omega]; exact Bs.wflat_get (by omega))) ?_
  refine st_alloc (h := 4) ty57 rfl rfl rfl (fun b4 => ?_)
  refine st_store_all 4 ty57 rfl rfl rfl rfl rfl (by intro u0 hu0; simp only [List.mem_cons, List.not_mem_nil, or_false] at hu0; rcases hu0 with rfl | rfl | rfl; rfl; exact (ho _ (Bs.getD_mem (by omega))); rfl) rfl rfl ?_
  refine op_nil ?_
  refine ax_then ?_
  refine At.regs (L' := [(0, _), (2, _), (3, _), (4, _)]) (.cons rfl (.cons rfl (.cons rfl (.cons rfl (.nil _))))) ?_
  refine cd_seq ?_
  refine cd_region ?_
  refine st (ev_move rfl) rfl rfl rfl ?_
  refine st (ev_move rfl) rfl rfl rfl ?_
  refine st (ev_nilCheck rfl) rfl rfl rfl ?_
  refine st (ld_blk1 (h := 0) ty50 rfl rfl rfl rfl) rfl rfl rfl ?_
  refine st (ev_move rfl) rfl rfl rfl ?_
  refine st (ev_slice_rd_hi (n := l.length) Try.underlying50 ty57 rfl rfl (fun w1 sw => sw.own_rd (h := 1) rfl) (by decide) (Bs.wflat_len l) (by omega) (by omega)) rfl rfl rfl ?_
  refine at_eq (i := 21) (v' := (cutAt 3 qv 0 (l.length - 1))) rfl (by rw [show ((l.length : Int) - 1).toNat = l.length - 1 by omega]) ?_
  refine at_own_take (h := 1) (n := l.length) (hi := l.length - 1) rfl (by decide) (Bs.wflat_len l) (by omega) ?_
  refine at_heq (i := 1) (v' := .own ((cutAt 3 qv 0 (l.length - 1))) 57 3 (Bs.wflat ((l.take (l.length - 1))))) rfl (by rw [Bs.wflat_take l (by omega)]) ?_
  refine at_own_shape (h := 1) rfl (fun hs1 => ?_)
  refine st (ev_nilCheck rfl) rfl rfl rfl ?_
  refine st_store1 0 ty50 rfl rfl rfl hs1.2 (show 0 < 2 from by decide) rfl ?_
  refine at_heq (i := 0) (v' := .blk (b) (.cells ([(cutAt 3 qv 0 (l.length - 1)), c]).toArray 52)) rfl rfl ?_
  refine op_nil ?_
  refine ax_then ?_
  refine At.regs (L' := [(2, _), (4, _)]) (.cons rfl (.cons rfl (.nil _))) ?_
  refine cd_seq ?_
  refine cd_region ?_
  refine st (ld_blk_all (h := 4) ty57 rfl rfl rfl rfl) rfl rfl rfl ?_
  refine st (ev_mkif Try.underlying57 rfl rfl) rfl rfl rfl ?_
  refine st (ev_assign rfl) rfl rfl rfl ?_
  refine op_nil ?_
  refine ax_then ?_
  refine At.regs (L' := [(2, _)]) (.cons rfl (.nil _)) ?_
  refine cd_ret ?_
  refine rt_tmp (.inl rfl) Try.results65 rfl ?_
  exact fun w1 sw => ⟨(), trivial, rfl, sw.gives (N := [(0, _), (1, _)]) (.cons rfl (.cons rfl (.nil _)))⟩
set_option maxRecDepth 20000 in
set_option maxHeartbeats 2000000 in
theorem hpush_any (b : Nat) (qv c : Value) (l : List Bs.W) (x : Bs.W) (w : World) (hx : x.dv.oneCell' = true) (hll : l.length ≤ 100000) (ho : ∀ x, x ∈ l → x.dv.oneCell' = true) (hb : w.heap[b]? = some (.cells (List.toArray [qv, c]) 52)) (hv : Own w qv 57 3 (Bs.wflat l)) (hbv : b ∉ blkOf qv) : Calls Try.prog 17 #[.iface 54 (.pointer (some ⟨b, 0, none⟩)), .iface 57 (.agg (List.toArray [.int .i64 x.id, x.dv, .int .i64 x.came]))] w (Post (ι := Value) w (b :: blkOf qv) (fun _ => True) (fun _ => .tuple #[]) (fun v => [(0, .blk (b) (.cells ([v, c]).toArray 52)), (1, .own (v) 57 3 (Bs.wflat (Bs.upS (l ++ [x]) l.length)))])) := by
  have hl1 : (l ++ [x]).length = l.length + 1 := by simp
  have ho1 : ∀ y, y ∈ l ++ [x] → y.dv.oneCell' = true := fun y hy => (List.mem_append.1 hy).elim (ho y) (fun h => by rw [List.mem_singleton.1 h]; exact hx)
  refine calls_at (vs := [.iface 54 (.pointer (some ⟨b, 0, none⟩)), .iface 57 (.agg (List.toArray [.int .i64 x.id, x.dv, .int .i64 x.came]))]) (X := b :: blkOf qv) (H := [(0, .blk (b) (.cells ([qv, c]).toArray 52)), (1, .own (qv) 57 3 (Bs.wflat (l)))]) (F := []) 12 Try.func17 rfl rfl rfl (Sat.two 0 1 (by decide) hb hv hbv) ?_
  refine cd_seq ?_
  refine cd_region ?_
  refine st (ev_move rfl) rfl rfl rfl ?_
  refine st (ev_move rfl) rfl rfl rfl ?_
  refine st_inv invPush rfl rfl (fun w1 sw => qpush_any b qv c l x w1 hx hll (sw.blk_eq (h := 0) rfl) (sw.hold 1 _ rfl) (sw.apart 0 _ 1 _ rfl rfl (by decide) _ (by simp [Ent.ids]))) (mod_two rfl rfl) rfl rfl (fun v6 _ => ?_)
  refine op_nil ?_
  refine ax_then ?_
  refine At.regs (L' := [(0, _)]) (.cons rfl (.nil _)) ?_
  refine cd_region ?_
  refine st (ev_move rfl) rfl rfl rfl ?_
  refine st (ev_move rfl) rfl rfl rfl ?_
  refine st_invv invLen rfl rfl (fun w1 sw => qlen_any b v6 c (l ++ [x]) w1 (lies_blk (sw.blk_eq (h := 0) rfl)) (sw.own_rd (h := 1) rfl)) rfl rfl ?_
  refine st (ev_sub64 rfl rfl (by omega) (by omega)) rfl rfl rfl ?_
  refine at_eq (i := 10) (v' := .int .i64 (l.length : Nat)) rfl (congrArg (Value.int .i64) (by omega)) ?_
  refine st_call has25 rfl (fun w1 sw => up_any b v6 c (l ++ [x]) l.length w1 (by omega) (by omega) ho1 (sw.blk_eq (h := 0) rfl) (sw.hold 1 _ rfl) (sw.apart 0 _ 1 _ rfl rfl (by decide) _ (by simp [Ent.ids]))) (mod_two rfl rfl) rfl rfl (fun _ _ => ?_)
  refine op_nil ?_
  refine rt_none (.inr rfl) Try.results17 ?_
  exact fun w1 sw => ⟨v6, trivial, rfl, sw.gives (N := [(0, _), (1, _)]) (.cons rfl (.cons rfl (.nil _)))⟩
set_option maxRecDepth 20000 in
set_option maxHeartbeats 2000000 in
theorem hpop_any (b : Nat) (qv c : Value) (l : List Bs.W) (w : World) (hpos : 0 < l.length) (hll : l.length ≤ 100000) (ho : ∀ x, x ∈ l → x.dv.oneCell' = true) (hb : w.heap[b]? = some (.cells (List.toArray [qv, c]) 52)) (hv : Own w qv 57 3 (Bs.wflat l)) (hbv : b ∉ blkOf qv) : Calls Try.prog 19 #[.iface 54 (.pointer (some ⟨b, 0, none⟩))] w (Post (ι := Unit) w (b :: blkOf qv) (fun _ => True) (fun _ => .iface 57 (.agg (List.toArray [.int .i64 ((Bs.downS (Bs.swapS l 0 (l.length - 1)) 0 (l.length - 1)).getD (l.length - 1) Bs.w0).id, ((Bs.downS (Bs.swapS l 0 (l.length - 1)) 0 (l.length - 1)).getD (l.length - 1) Bs.w0).dv, .int .i64 ((Bs.downS (Bs.swapS l 0 (l.length - 1)) 0 (l.length - 1)).getD (l.length - 1) Bs.w0).came]))) (fun _ => [(0, .blk (b) (.cells ([(cutAt 3 qv 0 (l.length - 1)), c]).toArray 52)), (1, .own ((cutAt 3 qv 0 (l.length - 1))) 57 3 (Bs.wflat ((Bs.downS (Bs.swapS l 0 (l.length - 1)) 0 (l.length - 1)).take (l.length - 1))))])) := by
  have hs1 := Bs.swapS_len l 0 (l.length - 1)
  have ho1 := Bs.swapS_one ho (i := 0) (k := (l.length - 1)) (by omega) (by omega)
  have hd1 := Bs.downS_len (Bs.swapS l 0 (l.length - 1)) 0 (l.length - 1)
  have ho2 := Bs.downS_one ho1 0 (l.length - 1) (by omega)
  refine calls_at (vs := [.iface 54 (.pointer (some ⟨b, 0, none⟩))]) (X := b :: blkOf qv) (H := [(0, .blk (b) (.cells ([qv, c]).toArray 52)), (1, .own (qv) 57 3 (Bs.wflat (l)))]) (F := []) 15 Try.func19 rfl rfl rfl (Sat.two 0 1 (by decide) hb hv hbv) ?_
  refine cd_seq ?_
  refine cd_region ?_
  refine st (ev_assign rfl) rfl rfl rfl ?_
  refine op_nil ?_
  refine ax_then ?_
  refine At.regs (L' := [(0, _), (2, _)]) (.cons rfl (.cons rfl (.nil _))) ?_
  refine cd_seq ?_
  refine cd_region ?_
  refine st (ev_move rfl) rfl rfl rfl ?_
  refine st_invv invLen rfl rfl (fun w1 sw => qlen_any b qv c l w1 (lies_blk (sw.blk_eq (h := 0) rfl)) (sw.own_rd (h := 1) rfl)) rfl rfl ?_
  refine st (ev_sub64 rfl rfl (by omega) (by omega)) rfl rfl rfl ?_
  refine at_eq (i := 6) (v' := .int .i64 ((l.length - 1) : Nat)) rfl (congrArg (Value.int .i64) (by omega)) ?_
  refine st (ev_assign rfl) rfl rfl rfl ?_
  refine op_nil ?_
  refine ax_then ?_
  refine At.regs (L' := [(0, _), (2, _), (3, _)]) (.cons rfl (.cons rfl (.cons rfl (.nil _)))) ?_
  refine cd_seq ?_
  refine cd_region ?_
  refine st (ev_move rfl) rfl rfl rfl ?_
  refine st (ev_move rfl) rfl rfl rfl ?_
  refine st_inv invSwap rfl rfl (fun w1 sw => qswap_any b qv c l 0 (l.length - 1) w1 (by omega) (by omega) ho (sw.blk_eq (h := 0) rfl) (sw.hold 1 _ rfl) (sw.apart 0 _ 1 _ rfl rfl (by decide) _ (by simp [Ent.ids]))) (mod_two rfl rfl) rfl rfl (fun _ _ => ?_)
  refine op_nil ?_
  refine ax_then ?_
  refine At.regs (L' := [(0, _), (2, _), (3, _)]) (.cons rfl (.cons rfl (.cons rfl (.nil _)))) ?_
  refine cd_seq ?_
  refine cd_region ?_
  refine st (ev_move rfl) rfl rfl rfl ?_
  refine st (ev_move rfl) rfl rfl rfl ?_
  refine st_call has27 rfl (fun w1 sw => down_any b qv c (Bs.swapS l 0 (l.length - 1)) 0 (l.length - 1) w1 (by omega) (by omega) (by omega) ho1 (sw.blk_eq (h := 0) rfl) (sw.hold 1 _ rfl) (sw.apart 0 _ 1 _ rfl rfl (by decide) _ (by simp [Ent.ids]))) (mod_two rfl rfl) rfl rfl (fun x12 _ => ?_)
  refine op_nil ?_
  refine ax_then ?_
  refine At.regs (L' := [(0, _), (2, _)]) (.cons rfl (.cons rfl (.nil _))) ?_
  refine cd_seq ?_
  refine cd_region ?_
  refine st (ev_move rfl) rfl rfl rfl ?_
  refine st_inv invPop rfl rfl (fun w1 sw => qpop_any b qv c (Bs.downS (Bs.swapS l 0 (l.length - 1)) 0 (l.length - 1)) w1 (by omega) (by omega) ho2 (sw.blk_eq (h := 0) rfl) (sw.hold 1 _ rfl) (sw.apart 0 _ 1 _ rfl rfl (by decide) _ (by simp [Ent.ids]))) (mod_two rfl rfl) rfl rfl (fun _ _ => ?_)
  refine at_eq (i := 14) (v' := .iface 57 (.agg (List.toArray [.int .i64 ((Bs.downS (Bs.swapS l 0 (l.length - 1)) 0 (l.length - 1)).getD (l.length - 1) Bs.w0).id, ((Bs.downS (Bs.swapS l 0 (l.length - 1)) 0 (l.length - 1)).getD (l.length - 1) Bs.w0).dv, .int .i64 ((Bs.downS (Bs.swapS l 0 (l.length - 1)) 0 (l.length - 1)).getD (l.length - 1) Bs.w0).came]))) rfl (by rw [hd1, hs1]) ?_
  refine at_heq (i := 0) (v' := .blk (b) (.cells ([(cutAt 3 qv 0 (l.length - 1)), c]).toArray 52)) rfl (by rw [hd1, hs1]) ?_
  refine at_heq (i := 1) (v' := .own ((cutAt 3 qv 0 (l.length - 1))) 57 3 (Bs.wflat ((Bs.downS (Bs.swapS l 0 (l.length - 1)) 0 (l.length - 1)).take (l.length - 1)))) rfl (by rw [hd1, hs1]) ?_
  refine st (ev_assign rfl) rfl rfl rfl ?_
  refine op_nil ?_
  refine ax_then ?_
  refine At.regs (L' := [(2, _)]) (.cons rfl (.nil _)) ?_
  refine cd_ret ?_
  refine rt_tmp (.inl rfl) Try.results19 rfl ?_
  exact fun w1 sw => ⟨(), trivial, rfl, sw.gives (N := [(0, _), (1, _)]) (.cons rfl (.cons rfl (.nil _)))⟩
end Go.Proofs.Ytfddplpljjlgiaa

namespace Go.Proofs.Ytfddplpljjlgiaa
open Go Go.RowKit Fw
open Bs
set_option linter.unusedVariables false
set_option linter.unusedSimpArgs false
set_option maxRecDepth 20000 in
set_option maxHeartbeats 1000000 in
theorem clone_nil (w : World) : Calls Try.prog 26 #[.slice none 0 0] w (Post (ι := Value) w [] (fun _ => True) (fun v => v) (fun v => [(0, .own (v) 5 1 (ints .u8 ([])))])) := by
  refine calls_at (vs := [.slice none 0 0]) (X := []) (H := []) (F := []) 8 Try.func26 rfl rfl rfl (Sat.start0 w) ?_
  refine cd_seq ?_
  refine cd_region ?_
  refine st (ev_assign rfl) rfl rfl rfl ?_
  refine at_own_nil 2 5 1 ?_
  refine at_heq (i := 2) (v' := .own (.slice none 0 0) 5 1 (ints .u8 [])) rfl rfl ?_
  refine op_nil ?_
  refine ax_then ?_
  refine At.regs (L' := [(0, _), (2, _)]) (.cons rfl (.cons rfl (.nil _))) ?_
  refine cd_seq ?_
  refine cd_seq ?_
  refine cd_region ?_
  refine st (ev_move rfl) rfl rfl rfl ?_
  refine st (ev_eql_slice_nil Try.underlying27 rfl rfl) rfl rfl rfl ?_
  refine op_nil ?_
  refine ax_then ?_
  refine At.regs (L' := [(0, _), (2, _), (4, _)]) (.cons rfl (.cons rfl (.cons rfl (.nil _)))) ?_
  refine cd_true rfl ?_
  refine cd_seq ?_
  refine cd_region ?_
  refine st (ev_assign rfl) rfl rfl rfl ?_
  refine at_own_nil 2 5 1 ?_
  refine at_heq (i := 2) (v' := .own (.slice none 0 0) 5 1 (ints .u8 [])) rfl rfl ?_
  refine op_nil ?_
  refine ax_then ?_
  refine At.regs (L' := [(0, _), (2, _)]) (.cons rfl (.cons rfl (.nil _))) ?_
  refine cd_ret ?_
  refine ax_then_ret ?_
  refine rt_tmp (.inl rfl) Try.results26 rfl ?_
  exact fun w1 sw => ⟨_, trivial, rfl, (sw.gives (N := [(2, _)]) (.cons rfl (.nil _))).rn 0⟩
set_option maxRecDepth 20000 in
set_option maxHeartbeats 1000000 in
theorem clone_some (x : Addr) (n c : Nat) (l : List Int) (w : World) (hl : l.length ≤ 140737488352000) (h : Rd w (.slice (some x) n c) 1 (ints .u8 l)) : Calls Try.prog 26 #[.slice (some x) n c] w (Post (ι := Value) w [] (fun _ => True) (fun v => v) (fun v => [(0, .own (v) 5 1 (ints .u8 (l)))])) := by
  refine calls_at (vs := [.slice (some x) n c]) (X := []) (H := []) (F := [(0, .sl (.slice (some x) n c) 1 (ints .u8 (l)))]) 8 Try.func26 rfl rfl rfl (Sat.rd0 0 h) ?_
  refine cd_seq ?_
  refine cd_region ?_
  refine st (ev_assign rfl) rfl rfl rfl ?_
  refine at_own_nil 2 5 1 ?_
  refine at_heq (i := 2) (v' := .own (.slice none 0 0) 5 1 (ints .u8 [])) rfl rfl ?_
  refine op_nil ?_
  refine ax_then ?_
  refine At.regs (L' := [(0, _), (2, _)]) (.cons rfl (.cons rfl (.nil _))) ?_
  refine cd_seq ?_
  refine cd_seq ?_
  refine cd_region ?_
  refine st (ev_move rfl) rfl rfl rfl ?_
  refine st (ev_eql_slice_nil Try.underlying27 rfl rfl) rfl rfl rfl ?_
  refine op_nil ?_
  refine ax_then ?_
  refine At.regs (L' := [(0, _), (2, _), (4, _)]) (.cons rfl (.cons rfl (.cons rfl (.nil _)))) ?_
  refine cd_false rfl ?_
  refine cd_skip ?_
  refine ax_then ?_
  refine At.regs (L' := [(0, _), (2, _)]) (.cons rfl (.cons rfl (.nil _))) ?_
  refine cd_seq ?_
  refine cd_region ?_
  refine st_bsi (h := 5) (xs := []) Try.underlying27 ty5 (by decide) rfl rfl (by decide) rfl rfl (fun b5 => ?_)
  refine st (ev_move rfl) rfl rfl rfl ?_
  refine st_appendi (h := 5) Try.underlying27 Try.underlying27 ty5 rfl rfl rfl rfl (fun w1 sw => sw.sl_rd (h := 0) rfl) (by first | omega | (simp only [List.length_append, List.length_cons, List.length_nil, List.length_set, List.length_replicate, List.length_take, List.length_drop, ints_length, wr_length] <;> omega)) (by decide) rfl rfl (fun v7 => ?_)
  refine at_heq (i := 5) (v' := .own (v7) 5 1 (ints .u8 (l))) rfl (by rw [List.nil_append]) ?_
  refine st (ev_assign rfl) rfl rfl rfl ?_
  refine op_nil ?_
  refine ax_then ?_
  refine At.regs (L' := [(2, _)]) (.cons rfl (.nil _)) ?_
  refine cd_ret ?_
  refine rt_tmp (.inl rfl) Try.results26 rfl ?_
  exact fun w1 sw => ⟨_, trivial, rfl, (sw.gives (N := [(5, _)]) (.cons rfl (.nil _))).rn 0⟩
theorem clone_any (p : Value) (l : List Int) (w : World) (hl : l.length ≤ 140737488352000) (h : Rd w p 1 (ints .u8 l)) : Calls Try.prog 26 #[p] w (Post (ι := Value) w [] (fun _ => True) (fun v => v) (fun v => [(0, .own (v) 5 1 (ints .u8 (l)))])) := by
  have h' := h
  obtain ⟨a, len, cap, rfl, h1, h2, h3, h4⟩ := h
  cases a with
  | some x => exact clone_some x len cap l w hl h'
  | none =>
    have hc := h3 rfl
    have hn : len = 0 := by omega
    subst hc; subst hn
    have : l = [] := List.length_eq_zero_iff.1 (by rw [ints_length] at h1; omega)
    subst this
    exact clone_nil w
set_option maxRecDepth 20000 in
set_option maxHeartbeats 2000000 in
theorem copied_any (id : Int) (dv : Value) (data : List Int) (w : World) (hl : data.length ≤ 140737488352000) (h : Rd w dv 1 (ints .u8 data)) : Calls Try.prog 18 #[.agg (List.toArray [.int .i64 id, dv])] w (Post (ι := Value) w [] (fun _ => True) (fun v => .agg (List.toArray [.int .i64 id, v])) (fun v => [(0, .own (v) 5 1 (ints .u8 (data)))])) := by
  have hsd := rd_shape h
  refine calls_at (vs := [.agg (List.toArray [.int .i64 id, dv])]) (X := []) (H := []) (F := [(20, .sl (dv) 1 (ints .u8 (data)))]) 9 Try.func18 rfl rfl rfl (Sat.rd0 20 h) ?_
  refine cd_seq ?_
  refine cd_region ?_
  refine st_box (h := 1) rfl rfl rfl rfl (fun b1 => ?_)
  refine st_alloc (h := 2) ty29 rfl rfl rfl (fun b2 => ?_)
  refine op_nil ?_
  refine ax_then ?_
  refine At.regs (L' := [(1, _), (2, _)]) (.cons rfl (.cons rfl (.nil _))) ?_
  refine cd_seq ?_
  refine at_freeze_blk (h := 1) (H' := [(2, _)]) 1 rfl (.cons rfl (.nil _)) rfl ?_
  refine cd_mix hmix ?_
  refine mx (i := 0) rfl (by decide +kernel) (by decide +kernel) (by decide +kernel) rfl (fun w0 => ev_fieldAddr (b := _) Try.underlying29 (f := _) rfl ty3 (by decide) rfl) rfl rfl (Sub.refl _) ?_
  refine mx (i := 1) rfl (by decide +kernel) (by decide +kernel) (by decide +kernel) rfl (fun w0 => ld_mem1 (h := 1) ty3 rfl rfl rfl (Nat.zero_add _).symm rfl) rfl rfl (Sub.refl _) ?_
  refine mx (i := 2) rfl (by decide +kernel) (by decide +kernel) (by decide +kernel) rfl (fun w0 => ev_fieldAddr (b := _) Try.underlying29 (f := _) rfl ty27 (by decide) rfl) rfl rfl (Sub.refl _) ?_
  refine mx (i := 3) rfl (by decide +kernel) (by decide +kernel) (by decide +kernel) rfl (fun w0 => ld_mem1 (h := 1) ty27 rfl rfl rfl (Nat.zero_add _).symm rfl) rfl rfl (Sub.refl _) ?_
  refine mx_one (i := 4) (by decide +kernel) (Sub.refl _) ?_
  refine wo (i := 4) rfl ?_
  refine st_call has26 rfl (fun w1 sw => rn 7 (clone_any dv data w1 hl (sw.sl_rd (h := 20) rfl))) nil_all rfl rfl (fun v7 _ => ?_)
  refine at_own_shape (h := 7) rfl (fun hs7 => ?_)
  refine op_nil ?_
  refine ax_then ?_
  refine mx (i := 5) rfl (by decide +kernel) (by decide +kernel) (by decide +kernel) rfl (fun w0 => ev_build_struct ty29 rfl pl29 rfl ((fill_put (i := 0) (off := 0) (n := 1) (vs := [.int .i64 id]) rfl rfl rfl (Nat.le_of_ble_eq_true rfl)).trans ((fill_put (i := 1) (off := 1) (n := 1) (vs := [v7]) rfl hs7.1 rfl (Nat.le_of_ble_eq_true rfl)).trans fill_nil))) rfl rfl (Sub.refl _) ?_
  refine at_eq (i := 8) (v' := .agg (List.toArray [.int .i64 id, v7])) rfl rfl ?_
  refine mx_one (i := 6) (by decide +kernel) (Sub.refl _) ?_
  refine wo (i := 6) rfl ?_
  refine st_store_all 2 ty29 rfl rfl rfl rfl rfl (by intro u0 hu0; simp only [List.mem_cons, List.not_mem_nil, or_false] at hu0; rcases hu0 with rfl | rfl; rfl; exact hs7.2) rfl rfl ?_
  refine op_nil ?_
  refine ax_then ?_
  refine mx_done (by decide +kernel) (Sub.refl _) ?_
  refine ax_then ?_
  refine At.regs (L' := [(2, _)]) (.cons rfl (.nil _)) ?_
  refine cd_ret ?_
  refine rt_cell (h0 := 2) (.inl rfl) Try.results18 ty29 rfl rfl rfl rfl ?_
  exact fun w1 sw => ⟨v7, trivial, rfl, (sw.gives (N := [(7, _)]) (.cons rfl (.nil _))).rn 0⟩
set_option maxRecDepth 20000 in
set_option maxHeartbeats 1000000 in
theorem blen_any (b : Nat) (qv c : Value) (l : List Bs.W) (w : World) (h : Lies w b 0 [qv, c]) (h' : Rd w qv 3 (Bs.wflat l)) : Calls Try.prog 10 #[.pointer (some ⟨b, 0, none⟩)] w (PostV w (.int .i64 (l.length : Nat))) := by
  refine calls_at (vs := [.pointer (some ⟨b, 0, none⟩)]) (X := []) (H := []) (F := [(21, .mem b 0 [qv, c]), (20, .sl (qv) 3 (Bs.wflat (l)))]) 10 Try.func10 rfl rfl rfl ((Sat.rd0 20 h').read (f := .mem b 0 [qv, c]) 21 h off_nil) ?_
  refine cd_seq ?_
  refine cd_region ?_
  refine st (ev_assign rfl) rfl rfl rfl ?_
  refine op_nil ?_
  refine ax_then ?_
  refine At.regs (L' := [(0, _), (2, _)]) (.cons rfl (.cons rfl (.nil _))) ?_
  refine cd_seq ?_
  refine cd_seq ?_
  refine cd_region ?_
  refine st (ev_move rfl) rfl rfl rfl ?_
  refine st (ev_eql_ptr_nil Try.underlying23 rfl rfl) rfl rfl rfl ?_
  refine op_nil ?_
  refine ax_then ?_
  refine At.regs (L' := [(0, _), (2, _), (4, _)]) (.cons rfl (.cons rfl (.cons rfl (.nil _)))) ?_
  refine cd_false rfl ?_
  refine cd_skip ?_
  refine ax_then ?_
  refine At.regs (L' := [(0, _), (2, _)]) (.cons rfl (.cons rfl (.nil _))) ?_
  refine cd_seq ?_
  refine cd_region ?_
  refine st (ev_move rfl) rfl rfl rfl ?_
  refine st (ev_nilCheck rfl) rfl rfl rfl ?_
  refine st (ev_fieldAddr (b := _) Try.underlying52 (f := _) rfl ty50 (by decide) rfl) rfl rfl rfl ?_
  refine st (ld_mem1 (h := 21) ty50 rfl rfl rfl (Nat.zero_add _).symm rfl) rfl rfl rfl ?_
  refine st (ev_len_rd (h := 20) (n := l.length) Try.underlying50 rfl rfl (Bs.wflat_len l) (by decide)) rfl rfl rfl ?_
  refine st (ev_assign rfl) rfl rfl rfl ?_
  refine op_nil ?_
  refine ax_then ?_
  refine At.regs (L' := [(2, _)]) (.cons rfl (.nil _)) ?_
  refine cd_ret ?_
  refine rt_tmp (.inl rfl) Try.results10 rfl ?_
  exact fun w1 sw => ⟨rfl, sw.gives (.nil _)⟩
set_option maxRecDepth 20000 in
set_option maxHeartbeats 4000000 in
theorem send_ok (b : Nat) (qv dv : Value) (l : List Bs.W) (came : Nat) (id : Int) (data : List Int) (w : World) (hid : 0 ≤ id ∧ id ≤ 2047) (hdl : data.length ≤ 8) (hlen : l.length < 64) (hca : came ≤ 1000000) (hll : l.length ≤ 100000) (ho : ∀ x, x ∈ l → x.dv.oneCell' = true) (hb : w.heap[b]? = some (.cells (List.toArray [qv, .int .i64 (came : Nat)]) 52)) (hv : Own w qv 57 3 (Bs.wflat l)) (hbv : b ∉ blkOf qv) (h : Rd w dv 1 (ints .u8 data)) (hof : FE.off b (.sl (dv) 1 (ints .u8 (data)))) (hof2 : ∀ x, x ∈ blkOf qv → FE.off x (.sl (dv) 1 (ints .u8 (data)))) : Calls Try.prog 8 #[.pointer (some ⟨b, 0, none⟩), .agg (List.toArray [.int .i64 id, dv])] w (PostRM (ι := Value × Value) w (b :: blkOf qv) (fun x => x.2.oneCell' = true) (fun _ => .int .i64 0) (fun x => [(0, .blk (b) (.cells ([x.1, .int .i64 ((came + 1 : Nat) : Int)]).toArray 52)), (1, .own (x.1) 57 3 (Bs.wflat (Bs.upS (l ++ [(⟨id, x.2, data, ((came + 1 : Nat) : Int)⟩ : Bs.W)]) l.length)))]) (fun x => [(x.2, 1, ints .u8 data)])) := by
  have hsd := rd_shape h
  refine calls_at (vs := [.pointer (some ⟨b, 0, none⟩), .agg (List.toArray [.int .i64 id, dv])]) (X := b :: blkOf qv) (H := [(0, .blk (b) (.cells ([qv, .int .i64 (came : Nat)]).toArray 52)), (1, .own (qv) 57 3 (Bs.wflat (l)))]) (F := [(2, .sl (dv) 1 (ints .u8 (data)))]) 51 Try.func8 rfl rfl rfl ((Sat.two 0 1 (by decide) hb hv hbv).read2 (f := .sl (dv) 1 (ints .u8 (data))) 2 h hof hof2) ?_
  refine cd_seq ?_
  refine cd_region ?_
  refine st_box (h := 3) rfl rfl rfl rfl (fun b3 => ?_)
  refine st (ev_assign rfl) rfl rfl rfl ?_
  refine op_nil ?_
  refine ax_then ?_
  refine At.regs (L' := [(0, _), (3, _), (4, _)]) (.cons rfl (.cons rfl (.cons rfl (.nil _)))) ?_
  refine cd_seq ?_
  refine cd_block ?_
  refine cd_seq ?_
  refine cd_region ?_
  refine st (ev_move rfl) rfl rfl rfl ?_
  refine st (ev_eql_ptr_nil Try.underlying23 rfl rfl) rfl rfl rfl ?_
  refine st (ev_move rfl) rfl rfl rfl ?_
  refine st (ev_fieldAddr (b := _) Try.underlying29 (f := _) rfl ty3 (by decide) rfl) rfl rfl rfl ?_
  refine st (ld_blk1 (h := 3) ty3 rfl rfl rfl rfl) rfl rfl rfl ?_
  refine st (ev_lss rfl rfl) rfl rfl rfl ?_
  refine st (ev_pick_f rfl rfl) rfl rfl rfl ?_
  refine st (ev_move rfl) rfl rfl rfl ?_
  refine at_eq (i := 13) (v' := .bool false) rfl (by simp only [Value.bool.injEq, decide_eq_true_eq, decide_eq_false_iff_not]; omega) ?_
  refine st (ev_fieldAddr (b := _) Try.underlying29 (f := _) rfl ty3 (by decide) rfl) rfl rfl rfl ?_
  refine st (ld_blk1 (h := 3) ty3 rfl rfl rfl rfl) rfl rfl rfl ?_
  refine st (ev_gtr rfl rfl) rfl rfl rfl ?_
  refine st (ev_pick_f rfl rfl) rfl rfl rfl ?_
  refine st (ev_move rfl) rfl rfl rfl ?_
  refine at_eq (i := 18) (v' := .bool false) rfl (by simp only [Value.bool.injEq, decide_eq_true_eq, decide_eq_false_iff_not]; omega) ?_
  refine st (ev_fieldAddr (b := _) Try.underlying29 (f := _) rfl ty27 (by decide) rfl) rfl rfl rfl ?_
  refine st (ld_blk1 (h := 3) ty27 rfl rfl rfl rfl) rfl rfl rfl ?_
  refine st (ev_len_rdi (h := 2) Try.underlying27 rfl rfl) rfl rfl rfl ?_
  refine st (ev_gtr rfl rfl) rfl rfl rfl ?_
  refine st (ev_pick_f rfl rfl) rfl rfl rfl ?_
  refine st (ev_assign rfl) rfl rfl rfl ?_
  refine op_nil ?_
  refine ax_then ?_
  refine At.regs (L' := [(0, _), (3, _), (4, _), (5, _)]) (.cons rfl (.cons rfl (.cons rfl (.cons rfl (.nil _))))) ?_
  refine cd_if_f rfl (by omega) ?_
  refine cd_seq ?_
  refine cd_region ?_
  refine st (ev_move rfl) rfl rfl rfl ?_
  refine st (ev_nilCheck rfl) rfl rfl rfl ?_
  refine st (ev_fieldAddr (b := _) Try.underlying52 (f := _) rfl ty50 (by decide) rfl) rfl rfl rfl ?_
  refine st (ld_blk1 (h := 0) ty50 rfl rfl rfl rfl) rfl rfl rfl ?_
  refine st (ev_len_own (h := 1) (n := l.length) Try.underlying50 rfl rfl (Bs.wflat_len l) (by decide)) rfl rfl rfl ?_
  refine st (ev_geq rfl rfl) rfl rfl rfl ?_
  refine st (ev_assign rfl) rfl rfl rfl ?_
  refine op_nil ?_
  refine ax_then ?_
  refine At.regs (L' := [(0, _), (3, _), (4, _), (24, _)]) (.cons rfl (.cons rfl (.cons rfl (.cons rfl (.nil _))))) ?_
  refine cd_if_f rfl (by omega) ?_
  refine cd_skip ?_
  refine ax_block ?_
  refine ax_then ?_
  refine At.regs (L' := [(0, _), (3, _), (4, _)]) (.cons rfl (.cons rfl (.cons rfl (.nil _)))) ?_
  refine cd_seq ?_
  refine cd_region ?_
  refine st (ev_move rfl) rfl rfl rfl ?_
  refine st (ev_nilCheck rfl) rfl rfl rfl ?_
  refine st (ev_fieldAddr (b := _) Try.underlying52 (f := _) rfl ty3 (by decide) rfl) rfl rfl rfl ?_
  refine st (ld_blk1 (h := 0) ty3 rfl rfl rfl rfl) rfl rfl rfl ?_
  refine st (ev_add64 rfl rfl (by omega) (by omega)) rfl rfl rfl ?_
  refine st (ev_nilCheck rfl) rfl rfl rfl ?_
  refine st (ev_fieldAddr (b := _) Try.underlying52 (f := _) rfl ty3 (by decide) rfl) rfl rfl rfl ?_
  refine st_store1 0 ty3 rfl rfl rfl rfl (show 1 < 2 from by decide) rfl ?_
  refine at_heq (i := 0) (v' := .blk (b) (.cells ([qv, .int .i64 ((came + 1 : Nat) : Int)]).toArray 52)) rfl rfl ?_
  refine op_nil ?_
  refine ax_then ?_
  refine At.regs (L' := [(0, _), (3, _), (4, _)]) (.cons rfl (.cons rfl (.cons rfl (.nil _)))) ?_
  refine cd_seq ?_
  refine at_freeze_blk (h := 3) (H' := [(0, _), (1, _)]) 3 rfl (.cons rfl (.cons rfl (.nil _))) rfl ?_
  refine at_rows_nil 200 ?_
  refine cd_mixp [(3, .mem b3 0 [.int .i64 id, dv])] hmix ?_
  refine mxp (i := 0) rfl (by decide +kernel) (by decide +kernel) (by decide +kernel) rfl (fun w0 => ev_move rfl) rfl rfl (fun w sw => sw.cf (.cons rfl (.nil _))) ?_
  refine mxp (i := 1) rfl (by decide +kernel) (by decide +kernel) (by decide +kernel) rfl (fun w0 => ev_nilCheck rfl) rfl rfl (fun w sw => sw.cf (.cons rfl (.nil _))) ?_
  refine mxp (i := 2) rfl (by decide +kernel) (by decide +kernel) (by decide +kernel) rfl (fun w0 => ev_fieldAddr (b := _) Try.underlying52 (f := _) rfl ty50 (by decide) rfl) rfl rfl (fun w sw => sw.cf (.cons rfl (.nil _))) ?_
  refine mxp (i := 3) rfl (by decide +kernel) (by decide +kernel) (by decide +kernel) rfl (fun w0 => ev_mkif Try.underlying54 rfl rfl) rfl rfl (fun w sw => sw.cf (.cons rfl (.nil _))) ?_
  refine mxp (i := 4) rfl (by decide +kernel) (by decide +kernel) (by decide +kernel) rfl (fun w0 => ld_mem_all (h := 3) ty29 rfl rfl rfl rfl) rfl rfl (fun w sw => sw.cf (.cons rfl (.nil _))) ?_
  refine mxp (i := 6) rfl (by decide +kernel) (by decide +kernel) (by decide +kernel) rfl (fun w0 => ev_move rfl) rfl rfl (fun w sw => sw.cf (.cons rfl (.nil _))) ?_
  refine mxp (i := 7) rfl (by decide +kernel) (by decide +kernel) (by decide +kernel) rfl (fun w0 => ev_nilCheck rfl) rfl rfl (fun w sw => sw.cf (.cons rfl (.nil _))) ?_
  refine mxp (i := 8) rfl (by decide +kernel) (by decide +kernel) (by decide +kernel) rfl (fun w0 => ev_fieldAddr (b := _) Try.underlying52 (f := _) rfl ty3 (by decide) rfl) rfl rfl (fun w sw => sw.cf (.cons rfl (.nil _))) ?_
  refine mxp_two (i := 5) (j := 9) (by decide +kernel) (fun w sw => sw.cf (.cons rfl (.nil _))) ?_ ?_
  ·
    refine wo (i := 5) rfl ?_
    refine st_call has18 rfl (fun w1 sw => rn 43 (copied_any id dv data w1 (by omega) (sw.sl_rd (h := 2) rfl))) nil_all rfl rfl (fun v43 _ => ?_)
    refine at_own_shape (h := 43) rfl (fun hs43 => ?_)
    refine at_rows_own (h := 43) (i := 200) (H' := [(0, _), (1, _)]) rfl rfl (.cons rfl (.cons rfl (.nil _))) rfl (fun b' hb' => by rcases List.mem_cons.1 hb' with rfl | hb'; exact ⟨0, _, rfl, by simp [Ent.ids]⟩; exact ⟨1, _, rfl, hb'⟩) (fun hf43 => ?_)
    refine op_nil ?_
    refine ax_then ?_
    refine mxp_one (i := 9) (by decide +kernel) (fun w sw => sw.cf (.cons rfl (.nil _))) ?_
    refine wo (i := 9) rfl ?_
    refine st (ld_blk1 (h := 0) ty3 rfl rfl rfl rfl) rfl rfl rfl ?_
    refine op_nil ?_
    refine ax_then ?_
    refine mxp (i := 10) rfl (by decide +kernel) (by decide +kernel) (by decide +kernel) rfl (fun w0 => ev_build_struct ty57 rfl pl57 rfl ((fill_put (i := 0) (off := 0) (n := 2) (vs := [.int .i64 id, v43]) rfl rfl rfl (Nat.le_of_ble_eq_true rfl)).trans ((fill_put (i := 1) (off := 2) (n := 1) (vs := [.int .i64 ((came + 1 : Nat) : Int)]) rfl rfl rfl (Nat.le_of_ble_eq_true rfl)).trans fill_nil))) rfl rfl (fun w sw => sw.cf (.cons rfl (.nil _))) ?_
    refine at_eq (i := 48) (v' := .agg (List.toArray [.int .i64 (⟨id, v43, data, ((came + 1 : Nat) : Int)⟩ : Bs.W).id, (⟨id, v43, data, ((came + 1 : Nat) : Int)⟩ : Bs.W).dv, .int .i64 (⟨id, v43, data, ((came + 1 : Nat) : Int)⟩ : Bs.W).came])) rfl rfl ?_
    refine mxp (i := 11) rfl (by decide +kernel) (by decide +kernel) (by decide +kernel) rfl (fun w0 => ev_mkif Try.underlying57 rfl rfl) rfl rfl (fun w sw => sw.cf (.cons rfl (.nil _))) ?_
    refine mxp_one (i := 12) (by decide +kernel) (fun w sw => sw.cf (.cons rfl (.nil _))) ?_
    refine wo (i := 12) rfl ?_
    refine st_call has17 rfl (fun w1 sw => hpush_any b qv (.int .i64 ((came + 1 : Nat) : Int)) l (⟨id, v43, data, ((came + 1 : Nat) : Int)⟩ : Bs.W) w1 hs43.2 hll ho (sw.blk_eq (h := 0) rfl) (sw.hold 1 _ rfl) (sw.apart 0 _ 1 _ rfl rfl (by decide) _ (by simp [Ent.ids]))) (mod_two rfl rfl) rfl rfl (fun v50 _ => ?_)
    refine op_nil ?_
    refine ax_then ?_
    refine mxp_done (by decide +kernel) (fun w sw => sw.cf (.cons rfl (.nil _))) ?_
    refine ax_then ?_
    refine At.regs (L' := [(4, _)]) (.cons rfl (.nil _)) ?_
    refine cd_seq ?_
    refine cd_region ?_
    refine st (ev_assign rfl) rfl rfl rfl ?_
    refine op_nil ?_
    refine ax_then ?_
    refine At.regs (L' := [(4, _)]) (.cons rfl (.nil _)) ?_
    refine cd_ret ?_
    refine rt_tmp (.inl rfl) Try.results8 rfl ?_
    exact fun w1 sw => ⟨(v50, v43), hs43.2, rfl, sw.gives (N := [(0, _), (1, _)]) (.cons rfl (.cons rfl (.nil _))), (fun y hy => ⟨sw.rd 200 _ rfl y hy, by rw [List.mem_singleton.1 hy]; exact hf43⟩), fun h e hh b' hb' => by
      rcases lk_two hh with ⟨rfl, rfl⟩ | ⟨rfl, _, rfl⟩
      · exact sw.off 200 _ 0 _ rfl rfl b' hb'
      · exact sw.off 200 _ 1 _ rfl rfl b' hb'⟩
  ·
    refine wo (i := 9) rfl ?_
    refine st (ld_blk1 (h := 0) ty3 rfl rfl rfl rfl) rfl rfl rfl ?_
    refine op_nil ?_
    refine ax_then ?_
    refine mxp_one (i := 5) (by decide +kernel) (fun w sw => sw.cf (.cons rfl (.nil _))) ?_
    refine wo (i := 5) rfl ?_
    refine st_call has18 rfl (fun w1 sw => rn 43 (copied_any id dv data w1 (by omega) (sw.sl_rd (h := 2) rfl))) nil_all rfl rfl (fun v43 _ => ?_)
    refine at_own_shape (h := 43) rfl (fun hs43 => ?_)
    refine at_rows_own (h := 43) (i := 200) (H' := [(0, _), (1, _)]) rfl rfl (.cons rfl (.cons rfl (.nil _))) rfl (fun b' hb' => by rcases List.mem_cons.1 hb' with rfl | hb'; exact ⟨0, _, rfl, by simp [Ent.ids]⟩; exact ⟨1, _, rfl, hb'⟩) (fun hf43 => ?_)
    refine op_nil ?_
    refine ax_then ?_
    refine mxp (i := 10) rfl (by decide +kernel) (by decide +kernel) (by decide +kernel) rfl (fun w0 => ev_build_struct ty57 rfl pl57 rfl ((fill_put (i := 0) (off := 0) (n := 2) (vs := [.int .i64 id, v43]) rfl rfl rfl (Nat.le_of_ble_eq_true rfl)).trans ((fill_put (i := 1) (off := 2) (n := 1) (vs := [.int .i64 ((came + 1 : Nat) : Int)]) rfl rfl rfl (Nat.le_of_ble_eq_true rfl)).trans fill_nil))) rfl rfl (fun w sw => sw.cf (.cons rfl (.nil _))) ?_
    refine at_eq (i := 48) (v' := .agg (List.toArray [.int .i64 (⟨id, v43, data, ((came + 1 : Nat) : Int)⟩ : Bs.W).id, (⟨id, v43, data, ((came + 1 : Nat) : Int)⟩ : Bs.W).dv, .int .i64 (⟨id, v43, data, ((came + 1 : Nat) : Int)⟩ : Bs.W).came])) rfl rfl ?_
    refine mxp (i := 11) rfl (by decide +kernel) (by decide +kernel) (by decide +kernel) rfl (fun w0 => ev_mkif Try.underlying57 rfl rfl) rfl rfl (fun w sw => sw.cf (.cons rfl (.nil _))) ?_
    refine mxp_one (i := 12) (by decide +kernel) (fun w sw => sw.cf (.cons rfl (.nil _))) ?_
    refine wo (i := 12) rfl ?_
    refine st_call has17 rfl (fun w1 sw => hpush_any b qv (.int .i64 ((came + 1 : Nat) : Int)) l (⟨id, v43, data, ((came + 1 : Nat) : Int)⟩ : Bs.W) w1 hs43.2 hll ho (sw.blk_eq (h := 0) rfl) (sw.hold 1 _ rfl) (sw.apart 0 _ 1 _ rfl rfl (by decide) _ (by simp [Ent.ids]))) (mod_two rfl rfl) rfl rfl (fun v50 _ => ?_)
    refine op_nil ?_
    refine ax_then ?_
    refine mxp_done (by decide +kernel) (fun w sw => sw.cf (.cons rfl (.nil _))) ?_
    refine ax_then ?_
    refine At.regs (L' := [(4, _)]) (.cons rfl (.nil _)) ?_
    refine cd_seq ?_
    refine cd_region ?_
    refine st (ev_assign rfl) rfl rfl rfl ?_
    refine op_nil ?_
    refine ax_then ?_
    refine At.regs (L' := [(4, _)]) (.cons rfl (.nil _)) ?_
    refine cd_ret ?_
    refine rt_tmp (.inl rfl) Try.results8 rfl ?_
    exact fun w1 sw => ⟨(v50, v43), hs43.2, rfl, sw.gives (N := [(0, _), (1, _)]) (.cons rfl (.cons rfl (.nil _))), (fun y hy => ⟨sw.rd 200 _ rfl y hy, by rw [List.mem_singleton.1 hy]; exact hf43⟩), fun h e hh b' hb' => by
      rcases lk_two hh with ⟨rfl, rfl⟩ | ⟨rfl, _, rfl⟩
      · exact sw.off 200 _ 0 _ rfl rfl b' hb'
      · exact sw.off 200 _ 1 _ rfl rfl b' hb'⟩
end Go.Proofs.Ytfddplpljjlgiaa

namespace Go.Proofs.Ytfddplpljjlgiaa.Bs
open Go Fw Go.Proofs.Ytfddplpljjlgiaa
theorem known2 (v v' : Value) : upS ([(⟨5, v, [], 1⟩ : W)] ++ [⟨3, v', [], 2⟩]) 1 = [⟨3, v', [], 2⟩, ⟨5, v, [], 1⟩] := by
  rw [upS_step (by decide) (.inl (by show (3 : Int) < 5; decide)), upS_stop (.inl rfl)]
  rfl
theorem known3 (v v' : Value) : downS (swapS [(⟨3, v', [], 2⟩ : W), ⟨5, v, [], 1⟩] 0 ([(⟨3, v', [], 2⟩ : W), ⟨5, v, [], 1⟩].length - 1)) 0 ([(⟨3, v', [], 2⟩ : W), ⟨5, v, [], 1⟩].length - 1) = [⟨5, v, [], 1⟩, ⟨3, v', [], 2⟩] := by
  show downS (swapS _ 0 1) 0 1 = _
  rw [downS_stop (.inl (by decide))]
  rfl
theorem upF_len : ∀ (f : Nat) (l : List W) (j : Nat), (upF f l j).length = l.length
  | 0, _, _ => rfl
  | f + 1, l, j => by
    rw [upF]
    split
    · rfl
    · rw [upF_len f, swapS_len]
theorem upS_len (l : List W) (j : Nat) : (upS l j).length = l.length := upF_len _ _ _
end Go.Proofs.Ytfddplpljjlgiaa.Bs

namespace Go.Proofs.Ytfddplpljjlgiaa
open Go Go.RowKit Fw
open Bs
set_option linter.unusedVariables false
set_option linter.unusedSimpArgs false
set_option maxRecDepth 20000 in
set_option maxHeartbeats 1000000 in
theorem new_any (w : World) : Calls Try.prog 7 #[] w (Post (ι := Nat) w [] (fun _ => True) (fun x => .pointer (some ⟨x, 0, none⟩)) (fun x => [(0, .blk (x) (.cells ([.slice none 0 0, .int .i64 ((0 : Nat) : Int)]).toArray 52)), (1, .own (.slice none 0 0) 57 3 (Bs.wflat ([])))])) := by
  refine calls_at (vs := []) (X := []) (H := []) (F := []) 3 Try.func7 rfl rfl rfl (Sat.start0 w) ?_
  refine cd_seq ?_
  refine cd_region ?_
  refine st (ev_assign rfl) rfl rfl rfl ?_
  refine op_nil ?_
  refine ax_then ?_
  refine At.regs (L' := [(0, _)]) (.cons rfl (.nil _)) ?_
  refine cd_seq ?_
  refine cd_region ?_
  refine st (ev_build_struct ty52 rfl pl52 rfl rfl) rfl rfl rfl ?_
  refine st_box (h := 2) rfl rfl rfl rfl (fun b2 => ?_)
  refine at_own_nil 1 57 3 ?_
  refine at_heq (i := 1) (v' := .own (.slice none 0 0) 57 3 (Bs.wflat ([]))) rfl rfl ?_
  refine st (ev_assign rfl) rfl rfl rfl ?_
  refine op_nil ?_
  refine ax_then ?_
  refine At.regs (L' := [(0, _)]) (.cons rfl (.nil _)) ?_
  refine cd_ret ?_
  refine rt_tmp (.inl rfl) Try.results7 rfl ?_
  exact fun w1 sw => ⟨b2, trivial, rfl, (sw.gives (N := [(2, _), (1, _)]) (.cons rfl (.cons rfl (.nil _)))).rn2 (by decide) 0 1⟩
set_option maxRecDepth 20000 in
set_option maxHeartbeats 2000000 in
theorem send_full (b : Nat) (qv c dv : Value) (l : List Bs.W) (id : Int) (data : List Int) (w : World) (hid : 0 ≤ id ∧ id ≤ 2047) (hdl : data.length ≤ 8) (hlen : 64 ≤ l.length) (h : Lies w b 0 [qv, c]) (h' : Rd w qv 3 (Bs.wflat l)) (hd : Rd w dv 1 (ints .u8 data)) : Calls Try.prog 8 #[.pointer (some ⟨b, 0, none⟩), .agg (List.toArray [.int .i64 id, dv])] w (PostV w (.int .i64 12)) := by
  have hsd := rd_shape hd
  refine calls_at (vs := [.pointer (some ⟨b, 0, none⟩), .agg (List.toArray [.int .i64 id, dv])]) (X := []) (H := []) (F := [(22, .sl (dv) 1 (ints .u8 (data))), (21, .mem b 0 [qv, c]), (20, .sl (qv) 3 (Bs.wflat (l)))]) 51 Try.func8 rfl rfl rfl (((Sat.rd0 20 h').read (f := .mem b 0 [qv, c]) 21 h off_nil).more 22 hd) ?_
  refine cd_seq ?_
  refine cd_region ?_
  refine st_box (h := 3) rfl rfl rfl rfl (fun b3 => ?_)
  refine st (ev_assign rfl) rfl rfl rfl ?_
  refine op_nil ?_
  refine ax_then ?_
  refine At.regs (L' := [(0, _), (3, _), (4, _)]) (.cons rfl (.cons rfl (.cons rfl (.nil _)))) ?_
  refine cd_seq ?_
  refine cd_block ?_
  refine cd_seq ?_
  refine cd_region ?_
  refine st (ev_move rfl) rfl rfl rfl ?_
  refine st (ev_eql_ptr_nil Try.underlying23 rfl rfl) rfl rfl rfl ?_
  refine st (ev_move rfl) rfl rfl rfl ?_
  refine st (ev_fieldAddr (b := _) Try.underlying29 (f := _) rfl ty3 (by decide) rfl) rfl rfl rfl ?_
  refine st (ld_blk1 (h := 3) ty3 rfl rfl rfl rfl) rfl rfl rfl ?_
  refine st (ev_lss rfl rfl) rfl rfl rfl ?_
  refine st (ev_pick_f rfl rfl) rfl rfl rfl ?_
  refine st (ev_move rfl) rfl rfl rfl ?_
  refine at_eq (i := 13) (v' := .bool false) rfl (by simp only [Value.bool.injEq, decide_eq_true_eq, decide_eq_false_iff_not]; omega) ?_
  refine st (ev_fieldAddr (b := _) Try.underlying29 (f := _) rfl ty3 (by decide) rfl) rfl rfl rfl ?_
  refine st (ld_blk1 (h := 3) ty3 rfl rfl rfl rfl) rfl rfl rfl ?_
  refine st (ev_gtr rfl rfl) rfl rfl rfl ?_
  refine st (ev_pick_f rfl rfl) rfl rfl rfl ?_
  refine st (ev_move rfl) rfl rfl rfl ?_
  refine at_eq (i := 18) (v' := .bool false) rfl (by simp only [Value.bool.injEq, decide_eq_true_eq, decide_eq_false_iff_not]; omega) ?_
  refine st (ev_fieldAddr (b := _) Try.underlying29 (f := _) rfl ty27 (by decide) rfl) rfl rfl rfl ?_
  refine st (ld_blk1 (h := 3) ty27 rfl rfl rfl rfl) rfl rfl rfl ?_
  refine st (ev_len_rdi (h := 22) Try.underlying27 rfl rfl) rfl rfl rfl ?_
  refine st (ev_gtr rfl rfl) rfl rfl rfl ?_
  refine st (ev_pick_f rfl rfl) rfl rfl rfl ?_
  refine st (ev_assign rfl) rfl rfl rfl ?_
  refine op_nil ?_
  refine ax_then ?_
  refine At.regs (L' := [(0, _), (3, _), (4, _), (5, _)]) (.cons rfl (.cons rfl (.cons rfl (.cons rfl (.nil _))))) ?_
  refine cd_if_f rfl (by omega) ?_
  refine cd_seq ?_
  refine cd_region ?_
  refine st (ev_move rfl) rfl rfl rfl ?_
  refine st (ev_nilCheck rfl) rfl rfl rfl ?_
  refine st (ev_fieldAddr (b := _) Try.underlying52 (f := _) rfl ty50 (by decide) rfl) rfl rfl rfl ?_
  refine st (ld_mem1 (h := 21) ty50 rfl rfl rfl (Nat.zero_add _).symm rfl) rfl rfl rfl ?_
  refine st (ev_len_rd (h := 20) (n := l.length) Try.underlying50 rfl rfl (Bs.wflat_len l) (by decide)) rfl rfl rfl ?_
  refine st (ev_geq rfl rfl) rfl rfl rfl ?_
  refine st (ev_assign rfl) rfl rfl rfl ?_
  refine op_nil ?_
  refine ax_then ?_
  refine At.regs (L' := [(0, _), (3, _), (4, _), (24, _)]) (.cons rfl (.cons rfl (.cons rfl (.cons rfl (.nil _))))) ?_
  refine cd_if_t rfl (by omega) ?_
  refine cd_seq ?_
  refine cd_region ?_
  refine st (ev_assign rfl) rfl rfl rfl ?_
  refine op_nil ?_
  refine ax_then ?_
  refine At.regs (L' := [(0, _), (3, _), (4, _)]) (.cons rfl (.cons rfl (.cons rfl (.nil _)))) ?_
  refine cd_ret ?_
  refine ax_block_ret ?_
  refine ax_then_ret ?_
  refine rt_tmp (.inl rfl) Try.results8 rfl ?_
  exact fun w1 sw => ⟨rfl, sw.gives (.nil _)⟩
set_option maxRecDepth 20000 in
set_option maxHeartbeats 2000000 in
theorem send_arg (b : Nat) (qv c dv : Value) (l : List Bs.W) (id : Int) (data : List Int) (w : World) (hbad : id < 0 ∨ id > 2047 ∨ 8 < data.length) (hdl : data.length ≤ 140737488351232) (h : Lies w b 0 [qv, c]) (h' : Rd w qv 3 (Bs.wflat l)) (hd : Rd w dv 1 (ints .u8 data)) : Calls Try.prog 8 #[.pointer (some ⟨b, 0, none⟩), .agg (List.toArray [.int .i64 id, dv])] w (PostV w (.int .i64 1)) := by
  have hsd := rd_shape hd
  refine calls_at (vs := [.pointer (some ⟨b, 0, none⟩), .agg (List.toArray [.int .i64 id, dv])]) (X := []) (H := []) (F := [(22, .sl (dv) 1 (ints .u8 (data))), (21, .mem b 0 [qv, c]), (20, .sl (qv) 3 (Bs.wflat (l)))]) 51 Try.func8 rfl rfl rfl (((Sat.rd0 20 h').read (f := .mem b 0 [qv, c]) 21 h off_nil).more 22 hd) ?_
  refine cd_seq ?_
  refine cd_region ?_
  refine st_box (h := 3) rfl rfl rfl rfl (fun b3 => ?_)
  refine st (ev_assign rfl) rfl rfl rfl ?_
  refine op_nil ?_
  refine ax_then ?_
  refine At.regs (L' := [(0, _), (3, _), (4, _)]) (.cons rfl (.cons rfl (.cons rfl (.nil _)))) ?_
  refine cd_seq ?_
  refine cd_block ?_
  refine cd_seq ?_
  refine cd_region ?_
  refine st (ev_move rfl) rfl rfl rfl ?_
  refine st (ev_eql_ptr_nil Try.underlying23 rfl rfl) rfl rfl rfl ?_
  refine st (ev_move rfl) rfl rfl rfl ?_
  refine st (ev_fieldAddr (b := _) Try.underlying29 (f := _) rfl ty3 (by decide) rfl) rfl rfl rfl ?_
  refine st (ld_blk1 (h := 3) ty3 rfl rfl rfl rfl) rfl rfl rfl ?_
  refine st (ev_lss rfl rfl) rfl rfl rfl ?_
  refine st (ev_pick_f rfl rfl) rfl rfl rfl ?_
  refine st (ev_move rfl) rfl rfl rfl ?_
  refine at_split_if (i := 13) rfl (fun hg13 => ?_) (fun hg13 => ?_)
  ·
    refine st_skip rfl rfl rfl ?_
    refine st_skip rfl rfl rfl ?_
    refine st_skip rfl rfl rfl ?_
    refine st (ev_pick_t rfl rfl) rfl rfl rfl ?_
    refine st (ev_move rfl) rfl rfl rfl ?_
    refine st_skip rfl rfl rfl ?_
    refine st_skip rfl rfl rfl ?_
    refine st_skip rfl rfl rfl ?_
    refine st_skip rfl rfl rfl ?_
    refine st (ev_pick_t rfl rfl) rfl rfl rfl ?_
    refine st (ev_assign rfl) rfl rfl rfl ?_
    refine op_nil ?_
    refine ax_then ?_
    refine At.regs (L' := [(0, _), (3, _), (4, _), (5, _)]) (.cons rfl (.cons rfl (.cons rfl (.cons rfl (.nil _))))) ?_
    refine cd_true rfl ?_
    refine cd_seq ?_
    refine cd_region ?_
    refine st (ev_assign rfl) rfl rfl rfl ?_
    refine op_nil ?_
    refine ax_then ?_
    refine At.regs (L' := [(0, _), (3, _), (4, _)]) (.cons rfl (.cons rfl (.cons rfl (.nil _)))) ?_
    refine cd_ret ?_
    refine ax_block_ret ?_
    refine ax_then_ret ?_
    refine rt_tmp (.inl rfl) Try.results8 rfl ?_
    exact fun w1 sw => ⟨rfl, sw.gives (.nil _)⟩
  ·
    refine st (ev_fieldAddr (b := _) Try.underlying29 (f := _) rfl ty3 (by decide) rfl) rfl rfl rfl ?_
    refine st (ld_blk1 (h := 3) ty3 rfl rfl rfl rfl) rfl rfl rfl ?_
    refine st (ev_gtr rfl rfl) rfl rfl rfl ?_
    refine st (ev_pick_f rfl rfl) rfl rfl rfl ?_
    refine st (ev_move rfl) rfl rfl rfl ?_
    refine at_split_if (i := 18) rfl (fun hg18 => ?_) (fun hg18 => ?_)
    ·
      refine st_skip rfl rfl rfl ?_
      refine st_skip rfl rfl rfl ?_
      refine st_skip rfl rfl rfl ?_
      refine st_skip rfl rfl rfl ?_
      refine st (ev_pick_t rfl rfl) rfl rfl rfl ?_
      refine st (ev_assign rfl) rfl rfl rfl ?_
      refine op_nil ?_
      refine ax_then ?_
      refine At.regs (L' := [(0, _), (3, _), (4, _), (5, _)]) (.cons rfl (.cons rfl (.cons rfl (.cons rfl (.nil _))))) ?_
      refine cd_true rfl ?_
      refine cd_seq ?_
      refine cd_region ?_
      refine st (ev_assign rfl) rfl rfl rfl ?_
      refine op_nil ?_
      refine ax_then ?_
      refine At.regs (L' := [(0, _), (3, _), (4, _)]) (.cons rfl (.cons rfl (.cons rfl (.nil _)))) ?_
      refine cd_ret ?_
      refine ax_block_ret ?_
      refine ax_then_ret ?_
      refine rt_tmp (.inl rfl) Try.results8 rfl ?_
      exact fun w1 sw => ⟨rfl, sw.gives (.nil _)⟩
    ·
      refine st (ev_fieldAddr (b := _) Try.underlying29 (f := _) rfl ty27 (by decide) rfl) rfl rfl rfl ?_
      refine st (ld_blk1 (h := 3) ty27 rfl rfl rfl rfl) rfl rfl rfl ?_
      refine st (ev_len_rdi (h := 22) Try.underlying27 rfl rfl) rfl rfl rfl ?_
      refine st (ev_gtr rfl rfl) rfl rfl rfl ?_
      refine st (ev_pick_f rfl rfl) rfl rfl rfl ?_
      refine st (ev_assign rfl) rfl rfl rfl ?_
      refine op_nil ?_
      refine ax_then ?_
      refine At.regs (L' := [(0, _), (3, _), (4, _), (5, _)]) (.cons rfl (.cons rfl (.cons rfl (.cons rfl (.nil _))))) ?_
      refine cd_if_t rfl (by omega) ?_
      refine cd_seq ?_
      refine cd_region ?_
      refine st (ev_assign rfl) rfl rfl rfl ?_
      refine op_nil ?_
      refine ax_then ?_
      refine At.regs (L' := [(0, _), (3, _), (4, _)]) (.cons rfl (.cons rfl (.cons rfl (.nil _)))) ?_
      refine cd_ret ?_
      refine ax_block_ret ?_
      refine ax_then_ret ?_
      refine rt_tmp (.inl rfl) Try.results8 rfl ?_
      exact fun w1 sw => ⟨rfl, sw.gives (.nil _)⟩
set_option maxRecDepth 20000 in
set_option maxHeartbeats 2000000 in
theorem next_ok (b : Nat) (qv : Value) (l : List Bs.W) (came : Nat) (w : World) (hpos : 0 < l.length) (hll : l.length ≤ 100000) (ho : ∀ x, x ∈ l → x.dv.oneCell' = true) (hb : w.heap[b]? = some (.cells (List.toArray [qv, .int .i64 (came : Nat)]) 52)) (hv : Own w qv 57 3 (Bs.wflat l)) (hbv : b ∉ blkOf qv) : Calls Try.prog 9 #[.pointer (some ⟨b, 0, none⟩)] w (Post (ι := Unit) w (b :: blkOf qv) (fun _ => True) (fun _ => .tuple #[.agg (List.toArray [.int .i64 ((Bs.downS (Bs.swapS l 0 (l.length - 1)) 0 (l.length - 1)).getD (l.length - 1) Bs.w0).id, ((Bs.downS (Bs.swapS l 0 (l.length - 1)) 0 (l.length - 1)).getD (l.length - 1) Bs.w0).dv]), .bool true]) (fun _ => [(0, .blk (b) (.cells ([(cutAt 3 qv 0 (l.length - 1)), .int .i64 (came : Nat)]).toArray 52)), (1, .own ((cutAt 3 qv 0 (l.length - 1))) 57 3 (Bs.wflat ((Bs.downS (Bs.swapS l 0 (l.length - 1)) 0 (l.length - 1)).take (l.length - 1))))])) := by
  have ho2 := Bs.downS_one (Bs.swapS_one ho (i := 0) (k := (l.length - 1)) (by omega) (by omega)) 0 (l.length - 1) (by rw [Bs.swapS_len]; omega)
  have hlast := ho2 _ (Bs.getD_mem (i := (l.length - 1)) (by rw [Bs.downS_len, Bs.swapS_len]; omega))
  refine calls_at (vs := [.pointer (some ⟨b, 0, none⟩)]) (X := b :: blkOf qv) (H := [(0, .blk (b) (.cells ([qv, .int .i64 (came : Nat)]).toArray 52)), (1, .own (qv) 57 3 (Bs.wflat (l)))]) (F := []) 22 Try.func9 rfl rfl rfl (Sat.two 0 1 (by decide) hb hv hbv) ?_
  refine cd_seq ?_
  refine cd_region ?_
  refine st_alloc (h := 2) ty29 rfl rfl rfl (fun b2 => ?_)
  refine st (ev_assign rfl) rfl rfl rfl ?_
  refine op_nil ?_
  refine ax_then ?_
  refine At.regs (L' := [(0, _), (2, _), (3, _)]) (.cons rfl (.cons rfl (.cons rfl (.nil _)))) ?_
  refine cd_seq ?_
  refine cd_seq ?_
  refine cd_region ?_
  refine st (ev_move rfl) rfl rfl rfl ?_
  refine st_callv has10 rfl (fun w1 sw => blen_any b qv (.int .i64 (came : Nat)) l w1 (lies_blk (sw.blk_eq (h := 0) rfl)) (sw.own_rd (h := 1) rfl)) rfl rfl ?_
  refine st (ev_eql rfl rfl) rfl rfl rfl ?_
  refine op_nil ?_
  refine ax_then ?_
  refine At.regs (L' := [(0, _), (2, _), (3, _), (8, _)]) (.cons rfl (.cons rfl (.cons rfl (.cons rfl (.nil _))))) ?_
  refine cd_if_f rfl (by omega) ?_
  refine cd_skip ?_
  refine ax_then ?_
  refine At.regs (L' := [(0, _), (2, _), (3, _)]) (.cons rfl (.cons rfl (.cons rfl (.nil _)))) ?_
  refine cd_seq ?_
  refine cd_region ?_
  refine st (ev_move rfl) rfl rfl rfl ?_
  refine st (ev_nilCheck rfl) rfl rfl rfl ?_
  refine st (ev_fieldAddr (b := _) Try.underlying52 (f := _) rfl ty50 (by decide) rfl) rfl rfl rfl ?_
  refine st (ev_mkif Try.underlying54 rfl rfl) rfl rfl rfl ?_
  refine st_call has19 rfl (fun w1 sw => hpop_any b qv (.int .i64 (came : Nat)) l w1 hpos hll ho (sw.blk_eq (h := 0) rfl) (sw.hold 1 _ rfl) (sw.apart 0 _ 1 _ rfl rfl (by decide) _ (by simp [Ent.ids]))) (mod_two rfl rfl) rfl rfl (fun _ _ => ?_)
  refine st (ev_assert Try.underlying57 rfl rfl) rfl rfl rfl ?_
  refine st (ev_move rfl) rfl rfl rfl ?_
  refine st (ev_extract rfl rfl) rfl rfl rfl ?_
  refine st (ev_extract rfl rfl) rfl rfl rfl ?_
  refine st_alloc (h := 4) ty57 rfl rfl rfl (fun b4 => ?_)
  refine st_store_all 4 ty57 rfl rfl rfl rfl rfl (by intro u0 hu0; simp only [List.mem_cons, List.not_mem_nil, or_false] at hu0; rcases hu0 with rfl | rfl | rfl; rfl; exact hlast; rfl) rfl rfl ?_
  refine st (ev_assign rfl) rfl rfl rfl ?_
  refine op_nil ?_
  refine ax_then ?_
  refine At.regs (L' := [(2, _), (3, _), (4, _), (5, _)]) (.cons rfl (.cons rfl (.cons rfl (.cons rfl (.nil _))))) ?_
  refine cd_seq ?_
  refine cd_region ?_
  refine st (ev_fieldAddr (b := _) Try.underlying57 (f := _) rfl ty29 (by decide) rfl) rfl rfl rfl ?_
  refine st (ld_blk (h := 4) ty29 rfl rfl rfl (Nat.le_of_ble_eq_true rfl)) rfl rfl rfl ?_
  refine at_eq (i := 20) (v' := .agg (List.toArray [.int .i64 ((Bs.downS (Bs.swapS l 0 (l.length - 1)) 0 (l.length - 1)).getD (l.length - 1) Bs.w0).id, ((Bs.downS (Bs.swapS l 0 (l.length - 1)) 0 (l.length - 1)).getD (l.length - 1) Bs.w0).dv])) rfl rfl ?_
  refine st (ev_move rfl) rfl rfl rfl ?_
  refine st_store_all 2 ty29 rfl rfl rfl rfl rfl (by intro u0 hu0; simp only [List.mem_cons, List.not_mem_nil, or_false] at hu0; rcases hu0 with rfl | rfl; rfl; exact hlast) rfl rfl ?_
  refine st (ev_assign rfl) rfl rfl rfl ?_
  refine op_nil ?_
  refine ax_then ?_
  refine At.regs (L' := [(2, _), (3, _)]) (.cons rfl (.cons rfl (.nil _))) ?_
  refine cd_ret ?_
  refine rt_cell_tmp (h0 := 2) (.inl rfl) Try.results9 ty29 rfl rfl rfl rfl rfl ?_
  exact fun w1 sw => ⟨(), trivial, rfl, sw.gives (N := [(0, _), (1, _)]) (.cons rfl (.cons rfl (.nil _)))⟩
theorem rd_nil1 {w : World} : Rd w (.slice none 0 0) 1 (ints .u8 []) := ⟨none, 0, 0, rfl, rfl, Nat.le_refl _, fun _ => rfl, fun x hx => by cases hx⟩
set_option maxRecDepth 20000 in
set_option maxHeartbeats 2000000 in
theorem known14_any (w : World) : Calls Try.prog 11 #[] w (PostV w (.bool true)) := by
  refine calls_at (vs := []) (X := []) (H := []) (F := []) 29 Try.func11 rfl rfl rfl (Sat.start0 w) ?_
  refine cd_seq ?_
  refine cd_region ?_
  refine st (ev_assign rfl) rfl rfl rfl ?_
  refine op_nil ?_
  refine ax_then ?_
  refine At.regs (L' := [(0, _)]) (.cons rfl (.nil _)) ?_
  refine cd_seq ?_
  refine cd_region ?_
  refine st_call has7 rfl (fun w1 sw => new_any w1) nil_all rfl rfl (fun b4 _ => ?_)
  refine st (ev_assign rfl) rfl rfl rfl ?_
  refine op_nil ?_
  refine ax_then ?_
  refine At.regs (L' := [(0, _), (1, _)]) (.cons rfl (.cons rfl (.nil _))) ?_
  refine cd_seq ?_
  refine cd_seq ?_
  refine cd_region ?_
  refine st (ev_move rfl) rfl rfl rfl ?_
  refine st (ev_eql_ptr_nil Try.underlying23 rfl rfl) rfl rfl rfl ?_
  refine op_nil ?_
  refine ax_then ?_
  refine At.regs (L' := [(0, _), (1, _), (6, _)]) (.cons rfl (.cons rfl (.cons rfl (.nil _)))) ?_
  refine cd_false rfl ?_
  refine cd_skip ?_
  refine ax_then ?_
  refine At.regs (L' := [(0, _), (1, _)]) (.cons rfl (.cons rfl (.nil _))) ?_
  refine cd_seq ?_
  refine cd_region ?_
  refine st (ev_move rfl) rfl rfl rfl ?_
  refine st (ev_build_struct ty29 rfl pl29 rfl ((fill_put (i := 0) (off := 0) (n := 1) (vs := [.int .i64 5]) rfl rfl rfl (Nat.le_of_ble_eq_true rfl)).trans fill_nil)) rfl rfl rfl ?_
  refine at_eq (i := 8) (v' := .agg (List.toArray [.int .i64 5, .slice none 0 0])) rfl rfl ?_
  refine st_callRM 209 has8 rfl (fun w1 sw => send_ok b4 (.slice none 0 0) (.slice none 0 0) [] 0 5 [] w1 ⟨by decide, by decide⟩ (by decide) (Nat.le_of_ble_eq_true rfl) (by decide) (Nat.le_of_ble_eq_true rfl) (fun y hy => by cases hy) (sw.blk_eq (h := 0) rfl) (sw.hold 1 _ rfl) (sw.apart 0 _ 1 _ rfl rfl (by decide) _ (by simp [Ent.ids])) rd_nil1 (.inl rfl) (fun _ _ => .inl rfl)) (mod_two rfl rfl) rfl rfl (fun x9 hx9 hf9 => ?_)
  obtain ⟨q9, v9⟩ := x9
  dsimp only at hx9 ⊢
  refine at_heq (i := 1) (v' := .own (q9) 57 3 (Bs.wflat ([(⟨5, v9, [], 1⟩ : Bs.W)]))) rfl (congrArg (fun z => Ent.own q9 57 3 (Bs.wflat z)) (Bs.upS_stop (.inl rfl))) ?_
  refine op_nil ?_
  refine ax_then ?_
  refine At.regs (L' := [(0, _), (1, _)]) (.cons rfl (.cons rfl (.nil _))) ?_
  refine cd_seq ?_
  refine cd_region ?_
  refine st (ev_move rfl) rfl rfl rfl ?_
  refine st (ev_build_struct ty29 rfl pl29 rfl ((fill_put (i := 0) (off := 0) (n := 1) (vs := [.int .i64 3]) rfl rfl rfl (Nat.le_of_ble_eq_true rfl)).trans fill_nil)) rfl rfl rfl ?_
  refine at_eq (i := 11) (v' := .agg (List.toArray [.int .i64 3, .slice none 0 0])) rfl rfl ?_
  refine st_callRM 212 has8 rfl (fun w1 sw => send_ok b4 q9 (.slice none 0 0) [(⟨5, v9, [], 1⟩ : Bs.W)] 1 3 [] w1 ⟨by decide, by decide⟩ (by decide) (Nat.le_of_ble_eq_true rfl) (by decide) (Nat.le_of_ble_eq_true rfl) (fun y hy => by rw [List.mem_singleton.1 hy]; exact hx9) (sw.blk_eq (h := 0) rfl) (sw.hold 1 _ rfl) (sw.apart 0 _ 1 _ rfl rfl (by decide) _ (by simp [Ent.ids])) rd_nil1 (.inl rfl) (fun _ _ => .inl rfl)) (mod_two rfl rfl) rfl rfl (fun x12 hx12 hf12 => ?_)
  obtain ⟨q12, v12⟩ := x12
  dsimp only at hx12 ⊢
  refine at_heq (i := 1) (v' := .own (q12) 57 3 (Bs.wflat ([(⟨3, v12, [], 2⟩ : Bs.W), (⟨5, v9, [], 1⟩ : Bs.W)]))) rfl (congrArg (fun z => Ent.own q12 57 3 (Bs.wflat z)) (Bs.known2 v9 v12)) ?_
  refine op_nil ?_
  refine ax_then ?_
  refine At.regs (L' := [(0, _), (1, _)]) (.cons rfl (.cons rfl (.nil _))) ?_
  refine cd_seq ?_
  refine cd_region ?_
  refine st (ev_move rfl) rfl rfl rfl ?_
  refine st_call has9 rfl (fun w1 sw => next_ok b4 q12 [(⟨3, v12, [], 2⟩ : Bs.W), (⟨5, v9, [], 1⟩ : Bs.W)] 2 w1 (Nat.le_of_ble_eq_true rfl) (Nat.le_of_ble_eq_true rfl) (fun y hy => by simp only [List.mem_cons, List.not_mem_nil, or_false] at hy; rcases hy with rfl | rfl; exact hx12; exact hx9) (sw.blk_eq (h := 0) rfl) (sw.hold 1 _ rfl) (sw.apart 0 _ 1 _ rfl rfl (by decide) _ (by simp [Ent.ids]))) (mod_two rfl rfl) rfl rfl (fun _ _ => ?_)
  refine at_eq (i := 15) (v' := .tuple #[.agg (List.toArray [.int .i64 3, v12]), .bool true]) rfl (by rw [Bs.known3 v9 v12]; rfl) ?_
  refine at_heq (i := 1) (v' := .own ((cutAt 3 q12 0 1)) 57 3 (Bs.wflat ([(⟨5, v9, [], 1⟩ : Bs.W)]))) rfl (by rw [Bs.known3 v9 v12]; rfl) ?_
  refine st (ev_move rfl) rfl rfl rfl ?_
  refine st (ev_extract rfl rfl) rfl rfl rfl ?_
  refine st (ev_extract rfl rfl) rfl rfl rfl ?_
  refine st_alloc (h := 2) ty29 rfl rfl rfl (fun b2 => ?_)
  refine st_store_all 2 ty29 rfl rfl rfl rfl rfl (by intro u0 hu0; simp only [List.mem_cons, List.not_mem_nil, or_false] at hu0; rcases hu0 with rfl | rfl; rfl; exact hx12) rfl rfl ?_
  refine st (ev_assign rfl) rfl rfl rfl ?_
  refine op_nil ?_
  refine ax_then ?_
  refine At.regs (L' := [(0, _), (1, _), (2, _), (3, _)]) (.cons rfl (.cons rfl (.cons rfl (.cons rfl (.nil _))))) ?_
  refine cd_seq ?_
  refine cd_region ?_
  refine st (ev_move rfl) rfl rfl rfl ?_
  refine st (ev_move rfl) rfl rfl rfl ?_
  refine st (ev_fieldAddr (b := _) Try.underlying29 (f := _) rfl ty3 (by decide) rfl) rfl rfl rfl ?_
  refine st (ld_blk1 (h := 2) ty3 rfl rfl rfl rfl) rfl rfl rfl ?_
  refine st (ev_eql rfl rfl) rfl rfl rfl ?_
  refine st (ev_pick_t rfl rfl) rfl rfl rfl ?_
  refine st (ev_move rfl) rfl rfl rfl ?_
  refine at_eq (i := 24) (v' := .bool true) rfl (by rw [decide_eq_true rfl]) ?_
  refine st (ev_move rfl) rfl rfl rfl ?_
  refine st_callv has10 rfl (fun w1 sw => blen_any b4 (cutAt 3 q12 0 1) (.int .i64 ((2 : Nat) : Int)) [(⟨5, v9, [], 1⟩ : Bs.W)] w1 (lies_blk (sw.blk_eq (h := 0) rfl)) (sw.own_rd (h := 1) rfl)) rfl rfl ?_
  refine st (ev_eql rfl rfl) rfl rfl rfl ?_
  refine st (ev_pick_t rfl rfl) rfl rfl rfl ?_
  refine st (ev_assign rfl) rfl rfl rfl ?_
  refine op_nil ?_
  refine ax_then ?_
  refine At.regs (L' := [(0, _)]) (.cons rfl (.nil _)) ?_
  refine cd_ret ?_
  refine rt_tmp (.inl rfl) Try.results11 rfl ?_
  exact fun w1 sw => ⟨rfl, sw.gives (.nil _)⟩
end Go.Proofs.Ytfddplpljjlgiaa

namespace Go.Proofs.Ytfddplpljjlgiaa
open Go Go.RowKit Fw
open Bs
set_option linter.unusedVariables false
set_option linter.unusedSimpArgs false
set_option maxRecDepth 20000 in
set_option maxHeartbeats 1000000 in
theorem ins1_any (qv f : Value) (n : Nat) (w : World) (hn : n ≤ 1) : Calls Try.prog 30 #[qv, .int .i64 0, .int .i64 (n : Nat), f] w (PostV w (.tuple #[])) := by
  refine calls_at (vs := [qv, .int .i64 0, .int .i64 (n : Nat), f]) (X := []) (H := []) (F := []) 53 Try.func30 rfl rfl rfl (Sat.start0 w) ?_
  refine cd_seq ?_
  refine cd_region ?_
  refine st (ev_move rfl) rfl rfl rfl ?_
  refine st (ev_add64 rfl rfl (by omega) (by omega)) rfl rfl rfl ?_
  refine st (ev_assign rfl) rfl rfl rfl ?_
  refine op_nil ?_
  refine ax_then ?_
  refine At.regs (L' := [(0, _), (1, _), (2, _), (3, _), (8, _)]) (.cons rfl (.cons rfl (.cons rfl (.cons rfl (.cons rfl (.nil _)))))) ?_
  refine cd_block ?_
  refine cd_loop (ι := Unit) (fun u => True) (fun u => 0)
      (fun u => [(2, .int .i64 (n : Nat)), (8, .int .i64 1)])
      (fun u => [])
      (fun u => [])
      () (trivial) (.cons rfl (.cons rfl (.nil _))) (.nil _) (.nil _) (fun u hi => ?_)
  refine cd_seq ?_
  refine cd_seq ?_
  refine cd_region ?_
  refine st (ev_move rfl) rfl rfl rfl ?_
  refine st (ev_move rfl) rfl rfl rfl ?_
  refine st (ev_lss rfl rfl) rfl rfl rfl ?_
  refine op_nil ?_
  refine ax_then ?_
  refine At.regs (L' := [(2, _), (8, _), (12, _), (13, _), (14, _)]) (.cons rfl (.cons rfl (.cons rfl (.cons rfl (.cons rfl (.nil _)))))) ?_
  refine cd_if_f rfl (by omega) ?_
  refine cd_exit ?_
  refine ax_then_exit ?_
  refine ax_then_exit ?_
  refine ax_block_hit ?_
  refine rt_none (.inr rfl) Try.results30 ?_
  exact fun w1 sw => ⟨rfl, sw.gives (.nil _)⟩
set_option maxRecDepth 20000 in
set_option maxHeartbeats 1000000 in
theorem pdq1_any (qv f : Value) (n : Nat) (k : Int) (w : World) (hn : n ≤ 1) : Calls Try.prog 28 #[qv, .int .i64 0, .int .i64 (n : Nat), .int .i64 k, f] w (PostV w (.tuple #[])) := by
  refine calls_at (vs := [qv, .int .i64 0, .int .i64 (n : Nat), .int .i64 k, f]) (X := []) (H := []) (F := []) 148 Try.func28 rfl rfl rfl (Sat.start0 w) ?_
  refine cd_seq ?_
  refine cd_region ?_
  refine st (ev_assign rfl) rfl rfl rfl ?_
  refine op_nil ?_
  refine ax_then ?_
  refine At.regs (L' := [(0, _), (1, _), (2, _), (3, _), (4, _), (10, _)]) (.cons rfl (.cons rfl (.cons rfl (.cons rfl (.cons rfl (.cons rfl (.nil _))))))) ?_
  refine cd_seq ?_
  refine cd_region ?_
  refine st (ev_assign rfl) rfl rfl rfl ?_
  refine op_nil ?_
  refine ax_then ?_
  refine At.regs (L' := [(0, _), (1, _), (2, _), (3, _), (4, _), (10, _), (11, _)]) (.cons rfl (.cons rfl (.cons rfl (.cons rfl (.cons rfl (.cons rfl (.cons rfl (.nil _)))))))) ?_
  refine cd_block ?_
  refine cd_loop (ι := Unit) (fun u => True) (fun u => 0)
      (fun u => [(0, qv), (1, .int .i64 0), (2, .int .i64 (n : Nat)), (3, .int .i64 k), (4, f)])
      (fun u => [])
      (fun u => [])
      () (trivial) (.cons rfl (.cons rfl (.cons rfl (.cons rfl (.cons rfl (.nil _)))))) (.nil _) (.nil _) (fun u hi => ?_)
  refine cd_block ?_
  refine cd_seq ?_
  refine cd_region ?_
  refine st (ev_move rfl) rfl rfl rfl ?_
  refine st (ev_move rfl) rfl rfl rfl ?_
  refine st (ev_sub64 rfl rfl (by omega) (by omega)) rfl rfl rfl ?_
  refine st (ev_assign rfl) rfl rfl rfl ?_
  refine op_nil ?_
  refine ax_then ?_
  refine At.regs (L' := [(0, _), (1, _), (2, _), (3, _), (4, _), (12, _), (21, _), (22, _), (23, _)]) (.cons rfl (.cons rfl (.cons rfl (.cons rfl (.cons rfl (.cons rfl (.cons rfl (.cons rfl (.cons rfl (.nil _)))))))))) ?_
  refine cd_seq ?_
  refine cd_seq ?_
  refine cd_region ?_
  refine st (ev_move rfl) rfl rfl rfl ?_
  refine st (ev_leq rfl rfl) rfl rfl rfl ?_
  refine op_nil ?_
  refine ax_then ?_
  refine At.regs (L' := [(0, _), (1, _), (2, _), (3, _), (4, _), (12, _), (21, _), (22, _), (23, _), (24, _), (25, _)]) (.cons rfl (.cons rfl (.cons rfl (.cons rfl (.cons rfl (.cons rfl (.cons rfl (.cons rfl (.cons rfl (.cons rfl (.cons rfl (.nil _)))))))))))) ?_
  refine cd_if_t rfl (by omega) ?_
  refine cd_seq ?_
  refine cd_region ?_
  refine st (ev_move rfl) rfl rfl rfl ?_
  refine st (ev_move rfl) rfl rfl rfl ?_
  refine st (ev_move rfl) rfl rfl rfl ?_
  refine st (ev_move rfl) rfl rfl rfl ?_
  refine st_callv has30 rfl (fun w1 sw => ins1_any qv f n w1 hn) rfl rfl ?_
  refine op_nil ?_
  refine ax_then ?_
  refine At.regs (L' := [(0, _), (1, _), (2, _), (3, _), (4, _), (12, _), (21, _), (22, _), (23, _), (24, _), (25, _), (26, _), (27, _), (28, _), (29, _)]) (.cons rfl (.cons rfl (.cons rfl (.cons rfl (.cons rfl (.cons rfl (.cons rfl (.cons rfl (.cons rfl (.cons rfl (.cons rfl (.cons rfl (.cons rfl (.cons rfl (.cons rfl (.nil _)))))))))))))))) ?_
  refine cd_ret ?_
  refine ax_then_ret ?_
  refine ax_block_ret ?_
  refine ax_then_ret ?_
  refine ax_block_ret ?_
  refine rt_none (.inl rfl) Try.results28 ?_
  exact fun w1 sw => ⟨rfl, sw.gives (.nil _)⟩
end Go.Proofs.Ytfddplpljjlgiaa

namespace Go.Proofs.Ytfddplpljjlgiaa
open Go Go.RowKit Fw
open Bs
set_option linter.unusedVariables false
set_option linter.unusedSimpArgs false
def len8 (n : Nat) : Nat := if n = 0 then 0 else Nat.log2 n + 1
theorem len8_at {s : ByteArray} (h : ((List.range 256).all fun n => s[n]? == some (UInt8.ofNat (len8 n))) = true) {n : Nat} (hn : n < 256) : s[n]? = some (UInt8.ofNat (len8 n)) := by
  have := List.all_eq_true.1 h n (List.mem_range.2 hn)
  exact eq_of_beq this
theorem len8_le : ∀ n, n < 256 → len8 n ≤ 8 := by decide +kernel
set_option maxRecDepth 20000 in
set_option maxHeartbeats 1000000 in
theorem len64_any (n : Nat) (w : World) (hn : n < 256) : Calls Try.prog 39 #[.int .u64 (n : Int)] w (PostV w (.int .i64 (len8 n : Int))) := by
  have hl8 := len8_le n hn
  have hw : IntKind.u8.wrap (n : Int) = (n : Int) := by simp [IntKind.wrap, IntKind.bits, IntKind.signed]; omega
  have hub : ((UInt8.ofNat (len8 n)).toNat : Int) = (len8 n : Int) := by rw [UInt8.toNat_ofNat']; omega
  refine calls_at (vs := [.int .u64 (n : Int)]) (X := []) (H := []) (F := []) 25 Try.func39 rfl rfl rfl (Sat.start0 w) ?_
  refine cd_seq ?_
  refine cd_region ?_
  refine st (ev_assign rfl) rfl rfl rfl ?_
  refine op_nil ?_
  refine ax_then ?_
  refine At.regs (L' := [(0, _), (2, _)]) (.cons rfl (.cons rfl (.nil _))) ?_
  refine cd_seq ?_
  refine cd_seq ?_
  refine cd_region ?_
  refine st (ev_move rfl) rfl rfl rfl ?_
  refine st (ev_geq rfl rfl) rfl rfl rfl ?_
  refine op_nil ?_
  refine ax_then ?_
  refine At.regs (L' := [(0, _), (2, _), (4, _)]) (.cons rfl (.cons rfl (.cons rfl (.nil _)))) ?_
  refine cd_if_f rfl (by omega) ?_
  refine cd_skip ?_
  refine ax_then ?_
  refine At.regs (L' := [(0, _), (2, _)]) (.cons rfl (.cons rfl (.nil _))) ?_
  refine cd_seq ?_
  refine cd_seq ?_
  refine cd_region ?_
  refine st (ev_move rfl) rfl rfl rfl ?_
  refine st (ev_geq rfl rfl) rfl rfl rfl ?_
  refine op_nil ?_
  refine ax_then ?_
  refine At.regs (L' := [(0, _), (2, _), (8, _)]) (.cons rfl (.cons rfl (.cons rfl (.nil _)))) ?_
  refine cd_if_f rfl (by omega) ?_
  refine cd_skip ?_
  refine ax_then ?_
  refine At.regs (L' := [(0, _), (2, _)]) (.cons rfl (.cons rfl (.nil _))) ?_
  refine cd_seq ?_
  refine cd_seq ?_
  refine cd_region ?_
  refine st (ev_move rfl) rfl rfl rfl ?_
  refine st (ev_geq rfl rfl) rfl rfl rfl ?_
  refine op_nil ?_
  refine ax_then ?_
  refine At.regs (L' := [(0, _), (2, _), (14, _)]) (.cons rfl (.cons rfl (.cons rfl (.nil _)))) ?_
  refine cd_if_f rfl (by omega) ?_
  refine cd_skip ?_
  refine ax_then ?_
  refine At.regs (L' := [(0, _), (2, _)]) (.cons rfl (.cons rfl (.nil _))) ?_
  refine cd_seq ?_
  refine cd_region ?_
  refine st (ev_move rfl) rfl rfl rfl ?_
  refine st (ev_move rfl) rfl rfl rfl ?_
  refine st (ev_conv Try.underlying88 Try.underlying5 rfl) rfl rfl rfl ?_
  refine at_eq (i := 21) (v' := .int .u8 (n : Int)) rfl (by rw [hw]) ?_
  refine st (ev_index_str Try.underlying9 rfl rfl (by omega) (by rw [Int.toNat_natCast]; exact len8_at (by decide +kernel) hn)) rfl rfl rfl ?_
  refine at_eq (i := 22) (v' := .int .u8 (len8 n : Int)) rfl (by rw [hub]) ?_
  refine st (ev_conv64 Try.underlying5 Try.underlying3 rfl (by omega) (by omega)) rfl rfl rfl ?_
  refine st (ev_add64 rfl rfl (by omega) (by omega)) rfl rfl rfl ?_
  refine at_eq (i := 24) (v' := .int .i64 (len8 n : Int)) rfl (by rw [Int.zero_add]) ?_
  refine st (ev_assign rfl) rfl rfl rfl ?_
  refine op_nil ?_
  refine ax_then ?_
  refine At.regs (L' := [(2, _)]) (.cons rfl (.nil _)) ?_
  refine cd_ret ?_
  refine rt_tmp (.inl rfl) Try.results39 rfl ?_
  exact fun w1 sw => ⟨rfl, sw.gives (.nil _)⟩
set_option maxRecDepth 20000 in
set_option maxHeartbeats 1000000 in
theorem len_any (n : Nat) (w : World) (hn : n < 256) : Calls Try.prog 29 #[.int .u64 (n : Int)] w (PostV w (.int .i64 (len8 n : Int))) := by
  refine calls_at (vs := [.int .u64 (n : Int)]) (X := []) (H := []) (F := []) 8 Try.func29 rfl rfl rfl (Sat.start0 w) ?_
  refine cd_seq ?_
  refine cd_region ?_
  refine st (ev_assign rfl) rfl rfl rfl ?_
  refine op_nil ?_
  refine ax_then ?_
  refine At.regs (L' := [(0, _), (2, _)]) (.cons rfl (.cons rfl (.nil _))) ?_
  refine cd_seq ?_
  refine cd_false rfl ?_
  refine cd_skip ?_
  refine ax_then ?_
  refine At.regs (L' := [(0, _), (2, _)]) (.cons rfl (.cons rfl (.nil _))) ?_
  refine cd_seq ?_
  refine cd_region ?_
  refine st (ev_move rfl) rfl rfl rfl ?_
  refine st_callv has39 rfl (fun w1 sw => len64_any n w1 hn) rfl rfl ?_
  refine st (ev_assign rfl) rfl rfl rfl ?_
  refine op_nil ?_
  refine ax_then ?_
  refine At.regs (L' := [(2, _)]) (.cons rfl (.nil _)) ?_
  refine cd_ret ?_
  refine rt_tmp (.inl rfl) Try.results29 rfl ?_
  exact fun w1 sw => ⟨rfl, sw.gives (.nil _)⟩
set_option maxRecDepth 20000 in
set_option maxHeartbeats 1000000 in
theorem sort1_any (qv f : Value) (l : List Bs.W) (w : World) (hl : l.length ≤ 1) (h : Rd w qv 3 (Bs.wflat l)) : Calls Try.prog 22 #[qv, f] w (PostV w (.tuple #[])) := by
  refine calls_at (vs := [qv, f]) (X := []) (H := []) (F := [(20, .sl (qv) 3 (Bs.wflat (l)))]) 14 Try.func22 rfl rfl rfl (Sat.rd0 20 h) ?_
  refine cd_seq ?_
  refine cd_region ?_
  refine st (ev_move rfl) rfl rfl rfl ?_
  refine st (ev_len_rd (h := 20) (n := l.length) Try.underlying50 rfl rfl (Bs.wflat_len l) (by decide)) rfl rfl rfl ?_
  refine st (ev_assign rfl) rfl rfl rfl ?_
  refine op_nil ?_
  refine ax_then ?_
  refine At.regs (L' := [(0, _), (1, _), (4, _)]) (.cons rfl (.cons rfl (.cons rfl (.nil _)))) ?_
  refine cd_region ?_
  refine st (ev_move rfl) rfl rfl rfl ?_
  refine st (ev_move rfl) rfl rfl rfl ?_
  refine st (ev_move rfl) rfl rfl rfl ?_
  refine st (ev_convu64 Try.underlying3 Try.underlying75 rfl (by omega) (by omega)) rfl rfl rfl ?_
  refine st_callv has29 rfl (fun w1 sw => len_any l.length w1 (by omega)) rfl rfl ?_
  refine st (ev_move rfl) rfl rfl rfl ?_
  refine st_callv has28 rfl (fun w1 sw => pdq1_any qv f l.length _ w1 hl) rfl rfl ?_
  refine op_nil ?_
  refine rt_none (.inr rfl) Try.results22 ?_
  exact fun w1 sw => ⟨rfl, sw.gives (.nil _)⟩
set_option maxRecDepth 20000 in
set_option maxHeartbeats 1000000 in
theorem cloneq_some (x : Addr) (n c : Nat) (l : List Bs.W) (w : World) (hl : l.length ≤ 100000) (ho : ∀ x, x ∈ l → x.dv.oneCell' = true) (h : Rd w (.slice (some x) n c) 3 (Bs.wflat l)) : Calls Try.prog 21 #[.slice (some x) n c] w (Post (ι := Value) w [] (fun _ => True) (fun v => v) (fun v => [(0, .own (v) 57 3 (Bs.wflat (l)))])) := by
  refine calls_at (vs := [.slice (some x) n c]) (X := []) (H := []) (F := [(0, .sl (.slice (some x) n c) 3 (Bs.wflat (l)))]) 8 Try.func21 rfl rfl rfl (Sat.rd0 0 h) ?_
  refine cd_seq ?_
  refine cd_region ?_
  refine st (ev_assign rfl) rfl rfl rfl ?_
  refine at_own_nil 2 57 3 ?_
  refine op_nil ?_
  refine ax_then ?_
  refine At.regs (L' := [(0, _), (2, _)]) (.cons rfl (.cons rfl (.nil _))) ?_
  refine cd_seq ?_
  refine cd_seq ?_
  refine cd_region ?_
  refine st (ev_move rfl) rfl rfl rfl ?_
  refine st (ev_eql_slice_nil Try.underlying50 rfl rfl) rfl rfl rfl ?_
  refine op_nil ?_
  refine ax_then ?_
  refine At.regs (L' := [(0, _), (2, _), (4, _)]) (.cons rfl (.cons rfl (.cons rfl (.nil _)))) ?_
  refine cd_false rfl ?_
  refine cd_skip ?_
  refine ax_then ?_
  refine At.regs (L' := [(0, _), (2, _)]) (.cons rfl (.cons rfl (.nil _))) ?_
  refine cd_seq ?_
  refine cd_region ?_
  refine st_buildSlice (h := 5) (cells := []) Try.underlying50 ty57 rfl (by decide) (fill_nil.trans (by simp)) rfl rfl rfl (fun b5 => ?_)
  refine st (ev_move rfl) rfl rfl rfl ?_
  refine st_append (n := 0) (m := l.length) (h := 5) (cs := Bs.wflat l) Try.underlying50 Try.underlying50 ty57 rfl rfl rfl rfl (fun w1 sw => sw.sl_rd (h := 0) rfl) (by decide) rfl (Bs.wflat_len l) (by omega) (by decide) (fun u hu => by obtain ⟨y, hy, hu⟩ := List.mem_flatMap.1 hu; exact Bs.wcells_one (ho y hy) u hu) rfl rfl (fun v7 => ?_)
  refine at_heq (i := 5) (v' := .own (v7) 57 3 (Bs.wflat (l))) rfl (by rw [List.nil_append]) ?_
  refine st (ev_assign rfl) rfl rfl rfl ?_
  refine op_nil ?_
  refine ax_then ?_
  refine At.regs (L' := [(2, _)]) (.cons rfl (.nil _)) ?_
  refine cd_ret ?_
  refine rt_tmp (.inl rfl) Try.results21 rfl ?_
  exact fun w1 sw => ⟨_, trivial, rfl, (sw.gives (N := [(5, _)]) (.cons rfl (.nil _))).rn 0⟩
end Go.Proofs.Ytfddplpljjlgiaa

namespace Go.Proofs.Ytfddplpljjlgiaa.Bs
open Go Fw Go.Proofs.Ytfddplpljjlgiaa
set_option linter.unusedSimpArgs false
set_option linter.unusedVariables false
structure WB where
  val : W
  one : val.dv.oneCell' = true
instance : Inhabited WB := ⟨⟨w0, rfl⟩⟩
def encB (x : WB) : List Value := wcells x.1
def Srt (l : List W) : Prop := l.Pairwise fun x y => ¬ bef y x
def plainB (d : Array WB) : List W := d.toList.map (·.1)
theorem plainB_len (d : Array WB) : (plainB d).length = d.size := by simp [plainB]
theorem plainB_get (d : Array WB) {i : Nat} (h : i < d.size) : (plainB d).getD i w0 = d[i]!.1 := by
  rw [List.getD_eq_getElem?_getD, plainB, List.getElem?_map, Array.getElem?_toList, Array.getElem?_eq_getElem h, getElem!_pos d i h]
  rfl
def packB (l : List W) (ho : ∀ x, x ∈ l → x.dv.oneCell' = true) : Array WB := (l.attach.map fun x => (⟨x.1, ho x.1 x.2⟩ : WB)).toArray
theorem plainB_pack (l : List W) (ho : ∀ x, x ∈ l → x.dv.oneCell' = true) : plainB (packB l ho) = l := by
  have : plainB (packB l ho) = (l.attach.map fun x => (⟨x.1, ho x.1 x.2⟩ : WB)).map (·.1) := rfl
  rw [this, List.map_map]
  exact List.attach_map_subtype_val l
theorem packB_size (l : List W) (ho : ∀ x, x ∈ l → x.dv.oneCell' = true) : (packB l ho).size = l.length := by
  simp [packB]
theorem flatB (d : Array WB) : Go.Sort.flatK encB 3 d = (wflat (plainB d)).toArray := by
  have hl := wflat_len (plainB d)
  rw [plainB_len] at hl
  refine Go.Sort.ext_get! (by simp [hl]) fun t ht => ?_
  have ht' : t < d.size * 3 := by simpa using ht
  have h3 : t / 3 < d.size := by omega
  rw [Go.Sort.get_flatK _ _ _ t ht', encB, ← plainB_get d h3]
  have hg := wflat_get (l := plainB d) (i := t / 3) (by rw [plainB_len]; exact h3)
  rw [← hg]
  have h5 : t < (wflat (plainB d)).length := by omega
  have h6 : t % 3 < (((wflat (plainB d)).drop (t / 3 * 3)).take 3).length := by rw [hg]; show t % 3 < 3; omega
  rw [getElem!_pos (((wflat (plainB d)).drop (t / 3 * 3)).take 3) (t % 3) h6, getElem!_pos (wflat (plainB d)).toArray t (by simpa using h5)]
  simp only [List.getElem_take, List.getElem_drop, List.getElem_toArray]
  congr 1
  omega
theorem putB (d : Array WB) (l : List Value) (hl : l.length = d.size * 3) (junk : List Value) : Go.Sort.putCells id 0 (Go.Sort.flatK encB 3 d) (l ++ junk).toArray = (wflat (plainB d) ++ junk).toArray := by
  have h0 := wflat_len (plainB d)
  rw [plainB_len] at h0
  have hs : (Go.Sort.flatK encB 3 d).size = d.size * 3 := by simp
  refine Array.ext (by simp [Go.Sort.putCells]; omega) fun i h1 h2 => ?_
  simp only [Go.Sort.putCells, Array.getElem_mapIdx, hs]
  by_cases hi : i < d.size * 3
  · rw [if_pos ⟨Nat.zero_le _, by omega⟩, id, Nat.sub_zero, flatB, getElem!_pos _ i (by simp; omega)]
    simp [List.getElem_append, h0, hi]
  · rw [if_neg (by omega)]
    simp [List.getElem_append, h0, hl, hi]
def cf (x y : WB) : Int := if bef x.1 y.1 then -1 else 1
theorem ltOf_cf (x y : WB) : Go.Proofs.ltOf cf x y = decide (bef x.1 y.1) := by
  unfold Go.Proofs.ltOf cf
  by_cases h : bef x.1 y.1 <;> simp [h]
theorem bef_irrefl (x : W) : ¬ bef x x := by unfold bef; omega
theorem bef_trans {x y z : W} (h1 : bef x y) (h2 : bef y z) : bef x z := by unfold bef at *; omega
theorem bef_ntrans {x y z : W} (h1 : ¬ bef x y) (h2 : ¬ bef y z) : ¬ bef x z := by unfold bef at *; omega
theorem swo : Go.Sort.SWO (Go.Proofs.ltOf cf) where
  irrefl x := by rw [ltOf_cf]; exact decide_eq_false (bef_irrefl _)
  trans x y z h1 h2 := by
    rw [ltOf_cf] at *
    exact decide_eq_true (bef_trans (of_decide_eq_true h1) (of_decide_eq_true h2))
  ntrans x y z h1 h2 := by
    rw [ltOf_cf] at *
    exact decide_eq_false (bef_ntrans (of_decide_eq_false h1) (of_decide_eq_false h2))
theorem srt_of {d d' : Array WB} (hp : Go.Sort.PermIn 0 d.size d d') (hs : Go.Sort.SortedIn (Go.Proofs.ltOf cf) 0 d.size d') : (plainB d').Perm (plainB d) ∧ Srt (plainB d') := by
  obtain ⟨h1, _, h3⟩ := hp
  have e1 : d'.extract 0 d.size = d' := by rw [← h1]; exact Array.extract_size
  rw [e1, Array.extract_size] at h3
  refine ⟨h3.map _, ?_⟩
  unfold Srt
  rw [List.pairwise_iff_getElem]
  intro i j hi hj hij
  have hi' : i < d'.size := by rwa [plainB_len] at hi
  have hj' : j < d'.size := by rwa [plainB_len] at hj
  have := hs i j (Nat.zero_le _) hij (by omega)
  rw [ltOf_cf, getElem!_pos d' j hj', getElem!_pos d' i hi'] at this
  have h5 := of_decide_eq_false this
  simpa [plainB] using h5
end Go.Proofs.Ytfddplpljjlgiaa.Bs

namespace Go.Proofs.Ytfddplpljjlgiaa
open Go Go.RowKit Go.Shelf Go.Lib Go.Sort
theorem grow2 (W : World) (a b : Obj) : (W.alloc a).alloc b = grow W #[a, b] := by rw [alloc_eq_grow, alloc_eq_grow, grow_grow]; rfl
set_option maxHeartbeats 1000000 in
theorem before_grow (x y : Bs.W) (hx : x.dv.oneCell' = true) (hy : y.dv.oneCell' = true) (W : World) : Calls Try.prog 24 #[.agg (Bs.wcells x).toArray, .agg (Bs.wcells y).toArray] W fun e w' => e = .returned (.bool (decide (Bs.bef x y))) ∧ ∃ os', w' = grow W os' := by
  simp only [Bs.wcells]
  go_enter Try.func24, Try.ntmps24
  go_wp2
  · next h1 h2 =>
    go_ret
    exact ⟨congrArg (fun b => Ending.returned (.bool b)) (decide_eq_decide.2 ⟨fun h => .inr ⟨h2, h⟩, fun h => h.elim (fun h => absurd h (by omega)) (·.2)⟩), _, grow2 ..⟩
  · next h1 h2 =>
    go_ret
    exact ⟨congrArg (fun b => Ending.returned (.bool b)) (decide_eq_decide.2 ⟨fun h => .inl h, fun h => h.elim id (fun h => absurd h.1 h2)⟩), _, grow2 ..⟩
  · next h1 =>
    go_ret
    exact ⟨congrArg (fun b => Ending.returned (.bool b)) (decide_eq_true (.inl h1)).symm, _, grow2 ..⟩
def cf (x y : Bs.W) : Int := if Bs.bef x y then -1 else 1
set_option maxHeartbeats 1000000 in
theorem clos_grow (x y : Bs.W) (hx : x.dv.oneCell' = true) (hy : y.dv.oneCell' = true) (W : World) : Calls Try.prog 23 #[.agg (Bs.wcells x).toArray, .agg (Bs.wcells y).toArray] W fun e w' => e = .returned (.int .i64 (cf x y)) ∧ ∃ q os', w' = grow (W.drewN q) os' := by
  have hcon := before_grow x y hx hy
  unfold cf
  by_cases hb : Bs.bef x y
  all_goals
    simp only [hb, decide_true, decide_false, if_true, if_false] at hcon ⊢
    simp only [Bs.wcells] at hcon ⊢
    go_enter Try.func23, Try.ntmps23
    go_wp2_with (go_at_call 24; refine (hcon _).mono ?_; rintro e w' ⟨rfl, os, rfl⟩)
    go_ret
    exact ⟨rfl, 0, _, by rw [grow2, grow_grow]; rfl⟩
end Go.Proofs.Ytfddplpljjlgiaa

namespace Go.Proofs.Ytfddplpljjlgiaa
open Go Go.RowKit Go.Shelf Go.Lib Go.Sort Fw
set_option linter.unusedVariables false
def pdqq_ren : Go.Shelf.Ren := ⟨fun | 14 => 28 | 20 => 30 | 21 => 31 | 22 => 32 | 23 => 33 | 24 => 34 | 25 => 35 | 26 => 36 | 27 => 37 | 46 => 40 | 47 => 41 | 48 => 42 | 49 => 43 | 50 => 44 | 15 => 29 | 57 => 45 | 28 => 38 | 29 => 39 | n => n, fun | 24 => 57 | 22 => 49 | 3 => 3 | 25 => 64 | 4 => 4 | 0 => 0 | 46 => 79 | 45 => 78 | 50 => 83 | 66 => 89 | 39 => 75 | 55 => 88 | 70 => 93 | 76 => 95 | 77 => 96 | 53 => 86 | 5 => 5 | 9 => 9 | n => n, fun | n => n⟩
theorem pdqq_lays : Go.Proofs.SlLaysF0.n14 Try.prog pdqq_ren := {
  mixed := by kernel_rfl
  f14 := ⟨Try.f28.name, by decide, Try.func28.trans (congrArg some (by kernel_rfl))⟩
  f15 := Try.func29.trans (congrArg some (by kernel_rfl))
  f20 := ⟨Try.f30.name, by decide, Try.func30.trans (congrArg some (by kernel_rfl))⟩
  f21 := ⟨Try.f31.name, by decide, Try.func31.trans (congrArg some (by kernel_rfl))⟩
  f22 := ⟨Try.f32.name, by decide, Try.func32.trans (congrArg some (by kernel_rfl))⟩
  f23 := ⟨Try.f33.name, by decide, Try.func33.trans (congrArg some (by kernel_rfl))⟩
  f24 := ⟨Try.f34.name, by decide, Try.func34.trans (congrArg some (by kernel_rfl))⟩
  f25 := ⟨Try.f35.name, by decide, Try.func35.trans (congrArg some (by kernel_rfl))⟩
  f26 := ⟨Try.f36.name, by decide, Try.func36.trans (congrArg some (by kernel_rfl))⟩
  f27 := ⟨Try.f37.name, by decide, Try.func37.trans (congrArg some (by kernel_rfl))⟩
  f28 := Try.func38.trans (congrArg some (by kernel_rfl))
  f29 := Try.func39.trans (congrArg some (by kernel_rfl))
  f46 := ⟨Try.f40.name, by decide, Try.func40.trans (congrArg some (by kernel_rfl))⟩
  f47 := Try.func41.trans (congrArg some (by kernel_rfl))
  f48 := Try.func42.trans (congrArg some (by kernel_rfl))
  f49 := ⟨Try.f43.name, by decide, Try.func43.trans (congrArg some (by kernel_rfl))⟩
  f50 := ⟨Try.f44.name, by decide, Try.func44.trans (congrArg some (by kernel_rfl))⟩
  f57 := ⟨Try.f45.name, by decide, Try.func45.trans (congrArg some (by kernel_rfl))⟩
  t0 := Try.underlying0
  a0 := Try.isAgg0
  z0 := Try.sizeOf0
  v0 := Try.zeroValue0
  t3 := Try.underlying3
  a3 := Try.isAgg3
  z3 := Try.sizeOf3
  v3 := Try.zeroValue3
  t4 := Try.underlying4
  a4 := Try.isAgg4
  z4 := Try.sizeOf4
  v4 := Try.zeroValue4
  t5 := Try.underlying5
  a5 := Try.isAgg5
  z5 := Try.sizeOf5
  v5 := Try.zeroValue5
  t9 := Try.underlying9
  a9 := Try.isAgg9
  z9 := Try.sizeOf9
  v9 := Try.zeroValue9
  t22 := Try.underlying49
  a22 := Try.isAgg49
  z22 := Try.sizeOf49
  v22 := Try.zeroValue49
  t25 := Try.underlying64
  a25 := Try.isAgg64
  z25 := Try.sizeOf64
  v25 := Try.zeroValue64
  t39 := Try.underlying75
  a39 := Try.isAgg75
  z39 := Try.sizeOf75
  v39 := Try.zeroValue75
  t45 := Try.underlying78
  a45 := Try.isAgg78
  z45 := Try.sizeOf78
  v45 := Try.zeroValue78
  t46 := Try.underlying79
  a46 := Try.isAgg79
  z46 := Try.sizeOf79
  v46 := Try.zeroValue79
  t50 := Try.underlying83
  a50 := Try.isAgg83
  z50 := Try.sizeOf83
  v50 := Try.zeroValue83
  t53 := Try.underlying86
  a53 := Try.isAgg86
  z53 := Try.sizeOf86
  v53 := Try.zeroValue86
  t55 := Try.underlying88
  a55 := Try.isAgg88
  z55 := Try.sizeOf88
  v55 := Try.zeroValue88
  t66 := Try.underlying89
  a66 := Try.isAgg89
  z66 := Try.sizeOf89
  v66 := Try.zeroValue89
  t70 := Try.underlying93
  a70 := Try.isAgg93
  z70 := Try.sizeOf93
  v70 := Try.zeroValue93
  t76 := Try.underlying95
  a76 := Try.isAgg95
  z76 := Try.sizeOf95
  v76 := Try.zeroValue95
  t77 := Try.underlying96
  a77 := Try.isAgg96
  z77 := Try.sizeOf96
  v77 := Try.zeroValue96 }
theorem cells_fro {w : World} {b T : Nat} {l junk : List Value} (hb : w.heap[b]? = some (.cells (l ++ junk).toArray T)) {i : Nat} (hi : i < l.length) : w.cell? ⟨b, 0 + i, none⟩ = some l[i] ∧ w.frozen? ⟨b, 0 + i, none⟩ = false := by
  constructor
  · have : (l ++ junk)[i]? = some l[i] := by rw [List.getElem?_append_left hi, List.getElem?_eq_getElem hi]
    simp [World.cell?, hb, this]
  · simp [World.frozen?, hb]
theorem pdqq_any (b cap : Nat) (l : List Bs.W) (junk : List Value) (lim : Nat) (w : World) (hlim : lim ≤ 1000) (hl : l.length ≤ 100000) (ho : ∀ x, x ∈ l → x.dv.oneCell' = true) (hc : l.length ≤ cap) (hj : junk.length = (cap - l.length) * 3) (hb : w.heap[b]? = some (.cells (Bs.wflat l ++ junk).toArray 57)) :
    Calls Try.prog 28 #[.slice (some ⟨b, 0, none⟩) l.length cap, .int .i64 0, .int .i64 (l.length : Nat), .int .i64 (lim : Nat), .func (.func 23) #[] #[]] w (Post (ι := List Bs.W) w [b] (fun l' => l'.Perm l ∧ Bs.Srt l') (fun _ => .tuple #[]) (fun l' => [(0, .own (.slice (some ⟨b, 0, none⟩) l.length cap) 57 3 (Bs.wflat l'))])) := by
  have hsz := Bs.packB_size l ho
  have hpl := Bs.plainB_pack l ho
  generalize Bs.packB l ho = d at hsz hpl
  subst hpl
  rw [Bs.plainB_len] at hl hc hj ⊢
  have hfl := Bs.wflat_len (Bs.plainB d)
  rw [Bs.plainB_len] at hfl
  have hbl : b < w.heap.size := by
    apply Classical.byContradiction
    intro h
    rw [Array.getElem?_eq_none (by omega)] at hb
    cases hb
  have hH : HoldsK Bs.encB 3 w b 0 d := by
    unfold HoldsK Holds
    intro j hj'
    rw [Bs.flatB] at hj' ⊢
    have hj2 : j < (Bs.wflat (Bs.plainB d)).length := by simpa using hj'
    rw [getElem!_pos _ j hj']
    have := cells_fro hb hj2
    exact ⟨by rw [this.1]; rfl, this.2⟩
  have hcmp : CmpLays Try.prog 23 #[] Bs.encB 3 Bs.cf b 0 d.size w := fun _ _ _ _ x y => clos_grow x.1 y.1 x.2 y.2 _
  have eg : ∀ args w, (callFunc 23 args).run Try.prog w = .ok (.enter 23 args) w := enters_of Try.func23 (by kernel_rfl) rfl
  have h := AnyQ.pdqsortCmpFunc_all (P := Try.prog) (ρ := pdqq_ren) pdqq_lays 3 Try.isAgg57 Try.sizeOf57 Bs.encB Bs.cf 23 #[] Bs.swo b 0 cap d w eg hcmp ⟨fun _ => rfl, fun x => Bs.wcells_one x.2, hH, hbl⟩ (d.size + 1) 0 d.size lim d w (by omega) rfl (SWK.start hH) (Nat.zero_le _) (Nat.le_refl _) (by omega) (by omega) (Or.inl rfl)
  have hs := pdq_sorts (ltOf Bs.cf) Bs.swo d 0 d.size lim true true (Nat.zero_le _) (Nat.le_refl _) (Or.inl rfl)
  have hp := Bs.srt_of hs.1 hs.2
  have hz : (pdq (ltOf Bs.cf) d 0 d.size lim true true).size = d.size := hs.1.1
  refine Calls.mono h ?_
  rintro e w' ⟨rfl, n, os, rfl⟩
  generalize pdq (ltOf Bs.cf) d 0 d.size lim true true = d' at hp hz ⊢
  have hfl' := Bs.wflat_len (Bs.plainB d')
  rw [Bs.plainB_len] at hfl'
  have hget : (sortWorldK Bs.encB 3 w b 0 n d' os).heap[b]? = some (.cells (Bs.wflat (Bs.plainB d') ++ junk).toArray 57) := by
    have h1 : (putRowK Bs.encB 3 (Sort.ahead w n) b 0 d').heap[b]? = some (.cells (Bs.wflat (Bs.plainB d') ++ junk).toArray 57) := by
      show (w.heap.modify b (onCells (putCells id 0 (flatK Bs.encB 3 d'))))[b]? = _
      rw [Array.getElem?_modify, if_pos rfl, hb]
      show some (Obj.cells (putCells id 0 (flatK Bs.encB 3 d') (Bs.wflat (Bs.plainB d) ++ junk).toArray) 57 _) = _
      rw [Bs.putB d' _ (by rw [hfl, hz])]
    unfold sortWorldK
    rw [heap_grow_old _ _ (by rw [size_putRowK]; exact hbl)]
    exact h1
  refine ⟨Bs.plainB d', hp, rfl, rfl, rfl, rfl, ?_, ?_, ?_, ?_, ?_⟩
  · unfold sortWorldK
    rw [size_grow, size_putRowK]
    exact Nat.le_add_right _ _
  · intro b' hb' hn
    unfold sortWorldK
    rw [heap_grow_old _ _ (by rw [size_putRowK]; exact hb')]
    show (w.heap.modify b _)[b']? = _
    rw [Array.getElem?_modify, if_neg (fun h => hn (by rw [h]; exact List.mem_singleton.2 rfl))]
  · intro h e hh
    obtain ⟨rfl, rfl⟩ := lk_one hh
    exact .inr ⟨b, d.size, cap, junk, rfl, by rw [hfl', hz], hj, hc, hget⟩
  · intro h e hh b' hb'
    obtain ⟨rfl, rfl⟩ := lk_one hh
    exact .inr hb'
  · intro h e h' e' hh hh' hne
    obtain ⟨rfl, rfl⟩ := lk_one hh
    obtain ⟨rfl, rfl⟩ := lk_one hh'
    exact absurd rfl hne
theorem pdqq_own (b cap : Nat) (l : List Bs.W) (lim : Nat) (w : World) (hlim : lim ≤ 1000) (hl : l.length ≤ 100000) (ho : ∀ x, x ∈ l → x.dv.oneCell' = true) (hv : Own w (.slice (some ⟨b, 0, none⟩) l.length cap) 57 3 (Bs.wflat l)) :
    Calls Try.prog 28 #[.slice (some ⟨b, 0, none⟩) l.length cap, .int .i64 0, .int .i64 (l.length : Nat), .int .i64 (lim : Nat), .func (.func 23) #[] #[]] w (Post (ι := List Bs.W) w [b] (fun l' => l'.Perm l ∧ Bs.Srt l') (fun _ => .tuple #[]) (fun l' => [(0, .own (.slice (some ⟨b, 0, none⟩) l.length cap) 57 3 (Bs.wflat l'))])) := by
  rcases hv with ⟨h, _⟩ | ⟨b', len, cap', junk, h, h1, h2, h3, h4⟩
  · cases h
  · cases h
    exact pdqq_any b cap l junk lim w hlim hl ho h3 h2 h4
end Go.Proofs.Ytfddplpljjlgiaa

namespace Go.Proofs.Ytfddplpljjlgiaa.Bs
open Go Fw Go.Proofs.Ytfddplpljjlgiaa
set_option linter.unusedSimpArgs false
set_option linter.unusedVariables false
def fcells (x : W) : List Value := [.int .i64 x.id, x.dv]
def fflat (l : List W) : List Value := l.flatMap fcells
def key (x : W) : Int × List Int := (x.id, x.data)
theorem fflat_len : ∀ (l : List W), (fflat l).length = l.length * 2
  | [] => rfl
  | x :: l => by
    have := fflat_len l
    rw [fflat] at this
    rw [fflat, List.flatMap_cons, List.length_append, List.length_cons, this]
    simp [fcells]
    omega
theorem fflat_append (a b : List W) : fflat a ++ fflat b = fflat (a ++ b) := by simp [fflat]
theorem fflat_snoc (a : List W) (x : W) : fflat a ++ fcells x = fflat (a ++ [x]) := by simp [fflat]
theorem fflat_drop : ∀ (l : List W) (i : Nat), (fflat l).drop (i * 2) = fflat (l.drop i)
  | l, 0 => by simp
  | [], i + 1 => by simp [fflat]
  | x :: l, i + 1 => by
    rw [fflat, List.flatMap_cons, show (i + 1) * 2 = 2 + i * 2 by omega, ← List.drop_drop, List.drop_left' (by rfl), List.drop_succ_cons]
    exact fflat_drop l i
theorem fflat_take (l : List W) {i : Nat} (hi : i ≤ l.length) : (fflat l).take (i * 2) = fflat (l.take i) := by
  have e2 : fflat l = fflat (l.take i) ++ fflat (l.drop i) := by rw [fflat_append, List.take_append_drop]
  rw [e2, List.take_left' (by rw [fflat_len, List.length_take]; congr 1; omega)]
theorem fflat_get {l : List W} {i : Nat} (hi : i < l.length) : ((fflat l).drop (i * 2)).take 2 = fcells (l.getD i w0) := by
  rw [fflat_drop, List.drop_eq_getElem_cons hi, fflat, List.flatMap_cons, List.take_left' (by rfl), List.getD_eq_getElem?_getD, List.getElem?_eq_getElem hi]
  rfl
theorem fcells_one {x : W} (h : x.dv.oneCell' = true) : ∀ u, u ∈ fcells x → u.oneCell' = true := fun u hu => by
  simp only [fcells, List.mem_cons, List.not_mem_nil, or_false] at hu
  rcases hu with rfl | rfl
  · rfl
  · exact h
theorem fflat_one {l : List W} (h : ∀ x, x ∈ l → x.dv.oneCell' = true) : ∀ u, u ∈ fflat l → u.oneCell' = true := fun u hu => by
  obtain ⟨y, hy, hu⟩ := List.mem_flatMap.1 hu
  exact fcells_one (h y hy) u hu
theorem wrows_mem {l : List W} {x : W} (h : x ∈ l) : (x.dv, 1, ints .u8 x.data) ∈ wrows l := List.mem_map.2 ⟨x, h, rfl⟩
theorem wrows_snoc {l : List W} {x : W} {R : List (Value × Nat × List Value)} (h : ∀ y, y ∈ wrows l → y ∈ R) (hx : (x.dv, 1, ints .u8 x.data) ∈ R) : ∀ y, y ∈ wrows (l ++ [x]) → y ∈ R := fun y hy => by
  obtain ⟨z, hz, rfl⟩ := List.mem_map.1 hy
  rcases List.mem_append.1 hz with hz | hz
  · exact h _ (wrows_mem hz)
  · rw [List.mem_singleton.1 hz]; exact hx
theorem key_take {ls : List W} {i : Nat} (hi : i < ls.length) {fl : List W} (h : fl.map key = (ls.take i).map key) (x : W) (hx : key x = key (ls.getD i w0)) : (fl ++ [x]).map key = (ls.take (i + 1)).map key := by
  rw [List.map_append, h, List.take_add_one, List.map_append, List.getElem?_eq_getElem hi]
  rw [List.getD_eq_getElem?_getD, List.getElem?_eq_getElem hi] at hx
  simp only [List.map_cons, List.map_nil, Option.toList_some]
  rw [hx]; rfl
theorem one_snoc {l : List W} (h : ∀ x, x ∈ l → x.dv.oneCell' = true) {y : W} (hy : y.dv.oneCell' = true) : ∀ x, x ∈ l ++ [y] → x.dv.oneCell' = true := fun x hx => by
  rcases List.mem_append.1 hx with hx | hx
  · exact h x hx
  · rw [List.mem_singleton.1 hx]; exact hy
end Go.Proofs.Ytfddplpljjlgiaa.Bs

namespace Go.Proofs.Ytfddplpljjlgiaa
open Go Go.RowKit Fw
open Bs
set_option linter.unusedVariables false
set_option linter.unusedSimpArgs false
theorem mod_own {H : List (Nat × Ent)} {ι : Type} {k T sz : Nat} {v : Value} {l : List Value} {e' : ι → Ent} (hv : lk H k = some (.own v T sz l)) : ∀ b', b' ∈ blkOf v → ∃ k' e, lk H k' = some e ∧ b' ∈ e.ids ∧ ∀ x, lk [(k, e' x)] k' ≠ none :=
  fun b' hb => ⟨k, _, hv, hb, fun x => by simp [lk_cons_same]⟩
set_option maxRecDepth 20000 in
set_option maxHeartbeats 1000000 in
theorem sort2_any (b cap : Nat) (l : List Bs.W) (junk : List Value) (w : World) (hl : l.length ≤ 200) (ho : ∀ x, x ∈ l → x.dv.oneCell' = true) (hc : l.length ≤ cap) (hj : junk.length = (cap - l.length) * 3) (hb : w.heap[b]? = some (.cells (Bs.wflat l ++ junk).toArray 57)) : Calls Try.prog 22 #[(.slice (some ⟨b, 0, none⟩) l.length cap), (.func (.func 23) #[] #[])] w (Post (ι := List Bs.W) w ([b]) (fun l' => l'.Perm l ∧ Bs.Srt l') (fun _ => .tuple #[]) (fun l' => [(0, .own (.slice (some ⟨b, 0, none⟩) l.length cap) 57 3 (Bs.wflat (l')))])) := by
  have hl8 := len8_le l.length (by omega)
  refine calls_at (vs := [(.slice (some ⟨b, 0, none⟩) l.length cap), (.func (.func 23) #[] #[])]) (X := [b]) (H := [(1, .own (.slice (some ⟨b, 0, none⟩) l.length cap) 57 3 (Bs.wflat (l)))]) (F := []) 14 Try.func22 rfl rfl rfl (Sat.own0 w 1 _ _ _ _ (.inr ⟨b, l.length, cap, junk, rfl, Bs.wflat_len l, hj, hc, hb⟩)) ?_
  refine cd_seq ?_
  refine cd_region ?_
  refine st (ev_move rfl) rfl rfl rfl ?_
  refine st (ev_len_own (h := 1) (n := l.length) Try.underlying50 rfl rfl (Bs.wflat_len l) (by decide)) rfl rfl rfl ?_
  refine st (ev_assign rfl) rfl rfl rfl ?_
  refine op_nil ?_
  refine ax_then ?_
  refine At.regs (L' := [(0, _), (1, _), (4, _)]) (.cons rfl (.cons rfl (.cons rfl (.nil _)))) ?_
  refine cd_region ?_
  refine st (ev_move rfl) rfl rfl rfl ?_
  refine st (ev_move rfl) rfl rfl rfl ?_
  refine st (ev_move rfl) rfl rfl rfl ?_
  refine st (ev_convu64 Try.underlying3 Try.underlying75 rfl (by omega) (by omega)) rfl rfl rfl ?_
  refine st_callv has29 rfl (fun w1 sw => len_any l.length w1 (by omega)) rfl rfl ?_
  refine st (ev_move rfl) rfl rfl rfl ?_
  refine st_call has28 rfl (fun w1 sw => rn 1 (pdqq_own b cap l _ w1 (by omega) (by omega) ho (sw.hold 1 _ rfl))) (mod_own (v := (.slice (some ⟨b, 0, none⟩) l.length cap)) (T := 57) (sz := 3) (l := Bs.wflat l) rfl) rfl rfl (fun x13 h13 => ?_)
  refine op_nil ?_
  refine rt_none (.inr rfl) Try.results22 ?_
  exact fun w1 sw => ⟨x13, h13, rfl, (sw.gives (N := [(1, _)]) (.cons rfl (.nil _))).rn 0⟩
theorem sortq_any (qv : Value) (l : List Bs.W) (w : World) (hl : l.length ≤ 200) (ho : ∀ x, x ∈ l → x.dv.oneCell' = true) (hv : Own w qv 57 3 (Bs.wflat l)) : Calls Try.prog 22 #[qv, (.func (.func 23) #[] #[])] w (Post (ι := List Bs.W) w (blkOf qv) (fun l' => l'.Perm l ∧ Bs.Srt l') (fun _ => .tuple #[]) (fun l' => [(0, .own (qv) 57 3 (Bs.wflat (l')))])) := by
  by_cases h1 : l.length ≤ 1
  · refine (sort1_any qv (.func (.func 23) #[] #[]) l w h1 (own_rd hv)).mono ?_
    rintro e w' ⟨rfl, g⟩
    refine ⟨l, ⟨List.Perm.refl _, ?_⟩, rfl, ((Sat.own0 w 0 _ _ _ _ hv).step g (fun b hb => by cases hb)).gives (N := [(0, _)]) (.cons rfl (.nil _))⟩
    match l, h1 with
    | [], _ => exact List.Pairwise.nil
    | [a], _ => exact List.pairwise_singleton _ _
  · rcases hv with ⟨_, h2⟩ | ⟨b, len, cap, junk, rfl, h2, h3, h4, h5⟩
    · have := Bs.wflat_len l
      rw [h2] at this
      simp at this
      omega
    · have : len = l.length := by have := Bs.wflat_len l; omega
      subst this
      exact sort2_any b cap l junk w hl ho h4 h3 h5
set_option maxRecDepth 20000 in
set_option maxHeartbeats 1000000 in
theorem cloneq_nil (w : World) : Calls Try.prog 21 #[.slice none 0 0] w (Post (ι := Value) w [] (fun _ => True) (fun v => v) (fun v => [(0, .own (v) 57 3 (Bs.wflat ([])))])) := by
  refine calls_at (vs := [.slice none 0 0]) (X := []) (H := []) (F := []) 8 Try.func21 rfl rfl rfl (Sat.start0 w) ?_
  refine cd_seq ?_
  refine cd_region ?_
  refine st (ev_assign rfl) rfl rfl rfl ?_
  refine at_own_nil 2 57 3 ?_
  refine op_nil ?_
  refine ax_then ?_
  refine At.regs (L' := [(0, _), (2, _)]) (.cons rfl (.cons rfl (.nil _))) ?_
  refine cd_seq ?_
  refine cd_seq ?_
  refine cd_region ?_
  refine st (ev_move rfl) rfl rfl rfl ?_
  refine st (ev_eql_slice_nil Try.underlying50 rfl rfl) rfl rfl rfl ?_
  refine op_nil ?_
  refine ax_then ?_
  refine At.regs (L' := [(0, _), (2, _), (4, _)]) (.cons rfl (.cons rfl (.cons rfl (.nil _)))) ?_
  refine cd_true rfl ?_
  refine cd_seq ?_
  refine at_own_nil 5 57 3 ?_
  refine at_heq (i := 5) (v' := .own (.slice none 0 0) 57 3 (Bs.wflat ([]))) rfl rfl ?_
  refine cd_region ?_
  refine st (ev_assign rfl) rfl rfl rfl ?_
  refine at_own_nil 2 57 3 ?_
  refine op_nil ?_
  refine ax_then ?_
  refine At.regs (L' := [(0, _), (2, _)]) (.cons rfl (.cons rfl (.nil _))) ?_
  refine cd_ret ?_
  refine ax_then_ret ?_
  refine rt_tmp (.inl rfl) Try.results21 rfl ?_
  exact fun w1 sw => ⟨_, trivial, rfl, (sw.gives (N := [(5, _)]) (.cons rfl (.nil _))).rn 0⟩
theorem cloneq_any (qv : Value) (l : List Bs.W) (w : World) (hl : l.length ≤ 100000) (ho : ∀ x, x ∈ l → x.dv.oneCell' = true) (h : Rd w qv 3 (Bs.wflat l)) : Calls Try.prog 21 #[qv] w (Post (ι := Value) w [] (fun _ => True) (fun v => v) (fun v => [(0, .own (v) 57 3 (Bs.wflat (l)))])) := by
  have h' := h
  obtain ⟨a, len, cap, rfl, h1, h2, h3, h4⟩ := h
  cases a with
  | some x => exact cloneq_some x len cap l w hl ho h'
  | none =>
    have hc := h3 rfl
    have hn : len = 0 := by omega
    subst hc; subst hn
    have : l = [] := List.length_eq_zero_iff.1 (by have := Bs.wflat_len l; omega)
    subst this
    exact cloneq_nil w
set_option maxRecDepth 20000 in
set_option maxHeartbeats 2000000 in
theorem list_any (b : Nat) (qv c : Value) (l : List Bs.W) (w : World) (hl : l.length ≤ 200) (ho : ∀ x, x ∈ l → x.dv.oneCell' = true) (hda : ∀ x, x ∈ l → x.data.length ≤ 8) (h : Lies w b 0 [qv, c]) (h' : Rd w qv 3 (Bs.wflat l)) (hr : ∀ y, y ∈ Bs.wrows l → Rd w y.1 y.2.1 y.2.2) : Calls Try.prog 16 #[.pointer (some ⟨b, 0, none⟩)] w (PostR (ι := Value × List Bs.W) w (fun x => (∃ ls : List Bs.W, ls.Perm l ∧ Bs.Srt ls ∧ x.2.map Bs.key = ls.map Bs.key) ∧ ∀ y, y ∈ x.2 → y.dv.oneCell' = true) (fun x => x.1) (fun x => [(90, .own (x.1) 29 2 (Bs.fflat (x.2)))]) (fun x => Bs.wrows x.2)) := by
  refine calls_at (vs := [.pointer (some ⟨b, 0, none⟩)]) (X := []) (H := []) (F := [(40, .rows (Bs.wrows l)), (21, .mem b 0 [qv, c]), (20, .sl (qv) 3 (Bs.wflat (l)))]) 30 Try.func16 rfl rfl rfl (((Sat.rd0 20 h').read (f := .mem b 0 [qv, c]) 21 h off_nil).read (f := .rows (Bs.wrows l)) 40 hr off_nil) ?_
  refine cd_seq ?_
  refine cd_region ?_
  refine st (ev_assign rfl) rfl rfl rfl ?_
  refine at_own_nil 2 29 2 ?_
  refine op_nil ?_
  refine ax_then ?_
  refine At.regs (L' := [(0, _), (2, _)]) (.cons rfl (.cons rfl (.nil _))) ?_
  refine cd_seq ?_
  refine cd_seq ?_
  refine cd_region ?_
  refine st (ev_move rfl) rfl rfl rfl ?_
  refine st (ev_eql_ptr_nil Try.underlying23 rfl rfl) rfl rfl rfl ?_
  refine op_nil ?_
  refine ax_then ?_
  refine At.regs (L' := [(0, _), (2, _), (8, _)]) (.cons rfl (.cons rfl (.cons rfl (.nil _)))) ?_
  refine cd_false rfl ?_
  refine cd_skip ?_
  refine ax_then ?_
  refine At.regs (L' := [(0, _), (2, _)]) (.cons rfl (.cons rfl (.nil _))) ?_
  refine cd_seq ?_
  refine cd_region ?_
  refine st (ev_move rfl) rfl rfl rfl ?_
  refine st (ev_nilCheck rfl) rfl rfl rfl ?_
  refine st (ev_fieldAddr (b := _) Try.underlying52 (f := _) rfl ty50 (by decide) rfl) rfl rfl rfl ?_
  refine st (ld_mem1 (h := 21) ty50 rfl rfl rfl (Nat.zero_add _).symm rfl) rfl rfl rfl ?_
  refine st_call has21 rfl (fun w1 sw => rn 13 (cloneq_any qv l w1 (by omega) ho (sw.sl_rd (h := 20) rfl))) nil_all rfl rfl (fun v13 _ => ?_)
  refine st (ev_assign rfl) rfl rfl rfl ?_
  refine op_nil ?_
  refine ax_then ?_
  refine At.regs (L' := [(2, _), (3, _)]) (.cons rfl (.cons rfl (.nil _))) ?_
  refine cd_seq ?_
  refine cd_region ?_
  refine st (ev_move rfl) rfl rfl rfl ?_
  refine st_call has22 rfl (fun w1 sw => rn 13 (sortq_any v13 l w1 hl ho (sw.hold 13 _ rfl))) (mod_own rfl) rfl rfl (fun ls hls => ?_)
  have hlsl := hls.1.length_eq
  have hlo : ∀ x, x ∈ ls → x.dv.oneCell' = true := fun x hx => ho x (hls.1.mem_iff.1 hx)
  have hld : ∀ x, x ∈ ls → x.data.length ≤ 8 := fun x hx => hda x (hls.1.mem_iff.1 hx)
  refine op_nil ?_
  refine ax_then ?_
  refine At.regs (L' := [(2, _), (3, _)]) (.cons rfl (.cons rfl (.nil _))) ?_
  refine cd_seq ?_
  refine cd_region ?_
  refine st (ev_assign rfl) rfl rfl rfl ?_
  refine at_own_nil 4 29 2 ?_
  refine op_nil ?_
  refine ax_then ?_
  refine At.regs (L' := [(2, _), (3, _), (4, _)]) (.cons rfl (.cons rfl (.cons rfl (.nil _)))) ?_
  refine cd_seq ?_
  refine cd_seq ?_
  refine cd_region ?_
  refine st (ev_move rfl) rfl rfl rfl ?_
  refine st (ev_len_own (h := 13) (n := ls.length) Try.underlying50 rfl rfl (Bs.wflat_len ls) (by decide)) rfl rfl rfl ?_
  refine st (ev_move rfl) rfl rfl rfl ?_
  refine op_nil ?_
  refine ax_then ?_
  refine At.regs (L' := [(2, _), (4, _), (16, _), (17, _), (18, _)]) (.cons rfl (.cons rfl (.cons rfl (.cons rfl (.cons rfl (.nil _)))))) ?_
  refine cd_block ?_
  refine at_rows_nil 41 ?_
  refine at_own_nil 100 29 2 ?_
  refine at_heq (i := 100) (v' := .own (.slice none 0 0) 29 2 (Bs.fflat ([]))) rfl rfl ?_
  refine cd_loop (ι := Nat × Value × List Bs.W) (fun x => x.1 ≤ ls.length ∧ x.2.2.length = x.1 ∧ x.2.2.map Bs.key = (ls.take x.1).map Bs.key ∧ (∀ y, y ∈ x.2.2 → y.dv.oneCell' = true) ∧ ∀ y, y ∈ Bs.wrows x.2.2 → ∀ b, b ∈ blkOf y.1 → w.heap.size ≤ b) (fun x => ls.length - x.1)
      (fun x => [(4, x.2.1), (16, v13), (17, .int .i64 (ls.length : Nat)), (18, .int .i64 (x.1 : Nat))])
      (fun x => [(13, .own (v13) 57 3 (Bs.wflat (ls))), (100, .own (x.2.1) 29 2 (Bs.fflat (x.2.2)))])
      (fun x => [(40, .rows (Bs.wrows l)), (41, .rows (Bs.wrows x.2.2))])
      (0, .slice none 0 0, []) (⟨Nat.zero_le _, rfl, rfl, (fun y hy => by cases hy), (fun y hy => by cases hy)⟩) (.cons rfl (.cons rfl (.cons rfl (.cons rfl (.nil _))))) (.cons rfl (.cons rfl (.nil _))) (.cons rfl (.cons rfl (.nil _))) (fun x hi => ?_)
  obtain ⟨k, v4, fl⟩ := x
  dsimp only at hi ⊢
  obtain ⟨hk, hfl, hfk, hfo, hff⟩ := hi
  refine cd_seq ?_
  refine cd_region ?_
  refine st (ev_lss rfl rfl) rfl rfl rfl ?_
  refine op_nil ?_
  refine ax_then ?_
  refine At.regs (L' := [(4, _), (16, _), (17, _), (18, _), (19, _)]) (.cons rfl (.cons rfl (.cons rfl (.cons rfl (.cons rfl (.nil _)))))) ?_
  refine cd_seq ?_
  refine cd_if rfl (fun hc19 => ?_) (fun hc19 => ?_)
  ·
    have hkl : k < ls.length := by omega
    refine cd_skip ?_
    refine ax_then ?_
    refine At.regs (L' := [(4, _), (16, _), (17, _), (18, _), (19, _)]) (.cons rfl (.cons rfl (.cons rfl (.cons rfl (.cons rfl (.nil _)))))) ?_
    refine cd_seq ?_
    refine cd_block ?_
    refine cd_seq ?_
    refine cd_region ?_
    refine st (ev_indexAddr_own (h := 13) (n := ls.length) Try.underlying50 ty57 rfl rfl rfl (Bs.wflat_len ls) (by decide) (by omega) (by omega)) rfl rfl rfl ?_
    refine st (ld_own (k := (k : Int).toNat * 3) (h := 13) ty57 rfl rfl rfl (by decide) (by rw [Bs.wflat_len]; omega)) rfl rfl rfl ?_
    refine at_eq (i := 21) (v' := .agg (List.toArray [.int .i64 (ls.getD k Bs.w0).id, (ls.getD k Bs.w0).dv, .int .i64 (ls.getD k Bs.w0).came])) rfl (congrArg (fun x => Value.agg (List.toArray x)) (by rw [show ((k : Nat) : Int).toNat = k by omega]; exact Bs.wflat_get hkl)) ?_
    refine st_alloc (h := 6) ty57 rfl rfl rfl (fun b6 => ?_)
    refine st_store_all 6 ty57 rfl rfl rfl rfl rfl (Bs.wcells_one (hlo _ (Bs.getD_mem hkl))) rfl rfl ?_
    refine op_nil ?_
    refine ax_then ?_
    refine At.regs (L' := [(4, _), (6, _), (16, _), (17, _), (18, _), (19, _), (20, _), (21, _)]) (.cons rfl (.cons rfl (.cons rfl (.cons rfl (.cons rfl (.cons rfl (.cons rfl (.cons rfl (.nil _))))))))) ?_
    refine cd_region ?_
    refine st (ev_move rfl) rfl rfl rfl ?_
    refine st (ev_fieldAddr (b := _) Try.underlying57 (f := _) rfl ty29 (by decide) rfl) rfl rfl rfl ?_
    refine st (ld_blk (h := 6) ty29 rfl rfl rfl (Nat.le_of_ble_eq_true rfl)) rfl rfl rfl ?_
    refine at_eq (i := 24) (v' := .agg (List.toArray [.int .i64 (ls.getD k Bs.w0).id, (ls.getD k Bs.w0).dv])) rfl rfl ?_
    refine st_call has18 rfl (fun w1 sw => rn 25 (copied_any (ls.getD k Bs.w0).id (ls.getD k Bs.w0).dv (ls.getD k Bs.w0).data w1 (by have := hld _ (Bs.getD_mem hkl); omega) (sw.row (i := 40) rfl (Bs.wrows_mem (hls.1.mem_iff.1 (Bs.getD_mem hkl)))))) nil_all rfl rfl (fun v25 _ => ?_)
    refine at_own_shape (h := 25) rfl (fun hs25 => ?_)
    refine st_bs1 (h := 26) (cs := [.int .i64 (ls.getD k Bs.w0).id, v25]) Try.underlying40 ty29 rfl rfl rfl (by decide) (by decide) rfl rfl (fun b26 => ?_)
    refine st_append (n := fl.length) (m := 1) (h := 100) (cs := [.int .i64 (ls.getD k Bs.w0).id, v25]) Try.underlying40 Try.underlying40 ty29 rfl rfl rfl rfl (fun w1 sw => sw.own_rd (h := 26) rfl) (by decide) (Bs.fflat_len fl) rfl (by omega) (by decide) (by intro u hu; simp only [List.mem_cons, List.not_mem_nil, or_false] at hu; rcases hu with rfl | rfl; rfl; exact hs25.2) rfl rfl (fun v27 => ?_)
    refine at_heq (i := 100) (v' := .own (v27) 29 2 (Bs.fflat (fl ++ [(⟨(ls.getD k Bs.w0).id, v25, (ls.getD k Bs.w0).data, 0⟩ : Bs.W)]))) rfl (congrArg (Ent.own v27 29 2) (Bs.fflat_snoc fl (⟨(ls.getD k Bs.w0).id, v25, (ls.getD k Bs.w0).data, 0⟩ : Bs.W))) ?_
    refine st (ev_assign rfl) rfl rfl rfl ?_
    refine op_nil ?_
    refine ax_block ?_
    refine ax_then ?_
    refine At.regs (L' := [(4, _), (6, _), (16, _), (17, _), (18, _), (19, _), (20, _), (21, _), (22, _), (23, _), (24, _), (25, _), (26, _), (27, _)]) (.cons rfl (.cons rfl (.cons rfl (.cons rfl (.cons rfl (.cons rfl (.cons rfl (.cons rfl (.cons rfl (.cons rfl (.cons rfl (.cons rfl (.cons rfl (.cons rfl (.nil _))))))))))))))) ?_
    refine at_rows_add (h := 25) (i := 41) (H' := [(13, _), (100, _)]) rfl rfl (.cons rfl (.cons rfl (.nil _))) rfl (fun hf25 => ?_)
    refine at_rowsub (i := 41) (rs' := Bs.wrows (fl ++ [(⟨(ls.getD k Bs.w0).id, v25, (ls.getD k Bs.w0).data, 0⟩ : Bs.W)])) 41 rfl (Bs.wrows_snoc (fun y hy => List.mem_cons_of_mem _ hy) (List.mem_cons_self ..)) ?_
    refine cd_region ?_
    refine st (ev_add64 rfl rfl (by omega) (by omega)) rfl rfl rfl ?_
    refine st (ev_move rfl) rfl rfl rfl ?_
    refine op_nil ?_
    exact at_again ((k + 1, v27, fl ++ [(⟨(ls.getD k Bs.w0).id, v25, (ls.getD k Bs.w0).data, 0⟩ : Bs.W)])) (⟨by show k + 1 ≤ ls.length; omega, by rw [List.length_append, hfl]; rfl, Bs.key_take hkl hfk _ rfl, Bs.one_snoc hfo hs25.2, fun y hy => (Bs.wrows_snoc (R := (v25, 1, ints .u8 (ls.getD k Bs.w0).data) :: Bs.wrows fl) (fun y hy => List.mem_cons_of_mem _ hy) (List.mem_cons_self ..) y hy |> List.mem_cons.1).elim (fun h b hb => by rw [h] at hb; exact (hf25 b hb).resolve_right (by simp)) (hff y)⟩) (by show ls.length - (k + 1) < ls.length - k; omega) (.cons rfl (.cons rfl (.cons rfl (.cons rfl (.nil _))))) (.cons rfl (.cons rfl (.nil _))) (.cons rfl (.cons rfl (.nil _)))
  ·
    obtain rfl : k = ls.length := by omega
    refine cd_exit ?_
    refine ax_then_exit ?_
    refine ax_then_exit ?_
    refine ax_block_hit ?_
    refine ax_then ?_
    refine At.regs (L' := [(4, _)]) (.cons rfl (.nil _)) ?_
    refine cd_seq ?_
    refine cd_region ?_
    refine st (ev_move rfl) rfl rfl rfl ?_
    refine st (ev_assign rfl) rfl rfl rfl ?_
    refine op_nil ?_
    refine ax_then ?_
    refine At.regs (L' := [(2, _)]) (.cons rfl (.nil _)) ?_
    refine cd_ret ?_
    refine rt_tmp (.inl rfl) Try.results16 rfl ?_
    exact fun w1 sw => ⟨(v4, fl), ⟨⟨ls, hls.1, hls.2, by rw [hfk, List.take_length]⟩, hfo⟩, rfl, (sw.gives (N := [(100, _)]) (.cons rfl (.nil _))).rn 90, (fun y hy => ⟨sw.row (i := 41) rfl hy, hff y hy⟩), fun h e hh b hb => by
      obtain ⟨rfl, rfl⟩ := lk_one hh
      exact fun y hy => sw.off 41 _ 100 _ rfl rfl b hb y hy⟩
end Go.Proofs.Ytfddplpljjlgiaa

namespace Go.Proofs.Ytfddplpljjlgiaa.Bs
open Go Fw Go.Proofs.Ytfddplpljjlgiaa
set_option linter.unusedSimpArgs false
set_option linter.unusedVariables false
theorem swapS_get {l : List W} {i k : Nat} (hi : i < l.length) (hk : k < l.length) (j : Nat) : (swapS l i k).getD j w0 = if j = k then l.getD i w0 else if j = i then l.getD k w0 else l.getD j w0 := by
  unfold swapS
  simp only [List.getD_eq_getElem?_getD, List.getElem?_set]
  by_cases h1 : k = j
  · subst h1; simp [hk]
  · by_cases h2 : i = j
    · subst h2; simp [h1, hi, Ne.symm h1]
    · simp [h1, h2, Ne.symm h1, Ne.symm h2]
theorem swapS_perm {l : List W} {i k : Nat} (hi : i < l.length) (hk : k < l.length) : (swapS l i k).Perm l := by
  have := List.set_set_perm hi hk
  unfold swapS
  rw [List.getD_eq_getElem?_getD, List.getElem?_eq_getElem hk, List.getD_eq_getElem?_getD, List.getElem?_eq_getElem hi]
  exact this
theorem bef_asymm {x y : W} (h : bef x y) : ¬ bef y x := fun h2 => bef_irrefl x (bef_trans h h2)
/-- of the first n none is before the one above it -/
def Hp (l : List W) (n : Nat) : Prop := ∀ j, 0 < j → j < n → ¬ bef (l.getD j w0) (l.getD ((j - 1) / 2) w0)
theorem hp_min {l : List W} {n : Nat} (h : Hp l n) : ∀ j, j < n → ¬ bef (l.getD j w0) (l.getD 0 w0) := by
  intro j
  induction j using Nat.strongRecOn with
  | ind j ih =>
    intro hj
    by_cases h0 : j = 0
    · subst h0; exact bef_irrefl _
    · exact bef_ntrans (h j (by omega) hj) (ih ((j - 1) / 2) (by omega) (by omega))
theorem upF_hp : ∀ (f : Nat) (l : List W) (n j : Nat), j < f → j < n → n ≤ l.length → (∀ i, 0 < i → i < n → i ≠ j → ¬ bef (l.getD i w0) (l.getD ((i - 1) / 2) w0)) →
    (∀ i, 0 < i → i < n → (i - 1) / 2 = j → 0 < j → ¬ bef (l.getD i w0) (l.getD ((j - 1) / 2) w0)) → Hp (upF f l j) n
  | 0, _, _, _, h, _, _, _, _ => absurd h (Nat.not_lt_zero _)
  | f + 1, l, n, j, hf, hj, hn, h1, h2 => by
    rw [upF]
    split
    · next h =>
      intro i hi hin
      by_cases hij : i = j
      · subst hij; exact h.elim (fun h => by omega) id
      · exact h1 i hi hin hij
    · next h =>
      have hj0 : j ≠ 0 := fun hc => h (.inl hc)
      have hb : bef (l.getD j w0) (l.getD ((j - 1) / 2) w0) := Classical.byContradiction fun hc => h (.inr hc)
      have hp : (j - 1) / 2 < j := by omega
      have hjl : j < l.length := by omega
      have hpl : (j - 1) / 2 < l.length := by omega
      refine upF_hp f _ n _ (by omega) (by omega) (by rw [swapS_len]; exact hn) ?_ ?_
      · intro i hi hin hip
        rw [swapS_get hpl hjl, swapS_get hpl hjl]
        by_cases hij : i = j
        · subst hij
          rw [if_pos rfl, if_neg (by omega), if_pos rfl]
          exact bef_asymm hb
        · rw [if_neg hij, if_neg hip]
          by_cases hpj : (i - 1) / 2 = j
          · rw [if_pos hpj]
            exact h2 i hi hin hpj (by omega)
          · rw [if_neg hpj]
            by_cases hpp : (i - 1) / 2 = (j - 1) / 2
            · rw [if_pos hpp]
              have h3 := h1 i hi hin hij
              rw [hpp] at h3
              exact fun hc => h3 (bef_trans hc hb)
            · rw [if_neg hpp]
              exact h1 i hi hin hij
      · intro i hi hin hip hp0
        rw [swapS_get hpl hjl, swapS_get hpl hjl]
        rw [if_neg (show ¬ ((j - 1) / 2 - 1) / 2 = j by omega), if_neg (show ¬ ((j - 1) / 2 - 1) / 2 = (j - 1) / 2 by omega)]
        have h4 := h1 ((j - 1) / 2) hp0 (by omega) (by omega)
        by_cases hij : i = j
        · rw [if_pos hij]; exact h4
        · rw [if_neg hij, if_neg (by omega)]
          have h3 := h1 i hi hin hij
          rw [hip] at h3
          exact bef_ntrans h3 h4
theorem upF_perm : ∀ (f : Nat) (l : List W) (j : Nat), j < l.length → (upF f l j).Perm l
  | 0, _, _, _ => .refl _
  | f + 1, l, j, hj => by
    rw [upF]
    split
    · exact .refl _
    · exact (upF_perm f _ _ (by rw [swapS_len]; omega)).trans (swapS_perm (by omega) hj)
theorem upS_perm {l : List W} {j : Nat} (hj : j < l.length) : (upS l j).Perm l := upF_perm _ _ _ hj
theorem getD_app_left {l : List W} {x : W} {i : Nat} (h : i < l.length) : (l ++ [x]).getD i w0 = l.getD i w0 := by
  rw [List.getD_eq_getElem?_getD, List.getD_eq_getElem?_getD, List.getElem?_append_left h]
theorem push_hp {l : List W} (h : Hp l l.length) (x : W) : Hp (upS (l ++ [x]) l.length) (l.length + 1) := by
  refine upF_hp _ _ _ _ (by omega) (by omega) (by simp) ?_ ?_
  · intro i hi hin hil
    rw [getD_app_left (by omega), getD_app_left (by omega)]
    exact h i hi (by omega)
  · intro i hi hin hip
    omega
theorem child_least {l : List W} {i n j : Nat} (hj : j < n) (h0 : 0 < j) (hp : (j - 1) / 2 = i) : ¬ bef (l.getD j w0) (l.getD (child l i n) w0) := by
  unfold child
  have : j = 2 * i + 1 ∨ j = 2 * i + 1 + 1 := by omega
  split
  · next h =>
    rcases this with rfl | rfl
    · exact bef_asymm h.2
    · exact bef_irrefl _
  · next h =>
    rcases this with rfl | rfl
    · exact bef_irrefl _
    · exact fun hc => h ⟨hj, hc⟩
theorem child_par {l : List W} {i n : Nat} : (child l i n - 1) / 2 = i := by unfold child; split <;> omega
theorem downF_hp : ∀ (f : Nat) (l : List W) (i n : Nat), n - i < f → i < n → n ≤ l.length → (∀ j, 0 < j → j < n → (j - 1) / 2 ≠ i → ¬ bef (l.getD j w0) (l.getD ((j - 1) / 2) w0)) →
    (∀ j, 0 < j → j < n → (j - 1) / 2 = i → 0 < i → ¬ bef (l.getD j w0) (l.getD ((i - 1) / 2) w0)) → Hp (downF f l i n) n
  | 0, _, _, _, h, _, _, _, _ => absurd h (Nat.not_lt_zero _)
  | f + 1, l, i, n, hf, hin, hn, h1, h2 => by
    rw [downF]
    split
    · next h =>
      intro j hj hjn
      by_cases hp : (j - 1) / 2 = i
      · rw [hp]
        rcases h with h | h
        · omega
        · exact bef_ntrans (child_least hjn hj hp) h
      · exact h1 j hj hjn hp
    · next h =>
      have hlt : 2 * i + 1 < n := Classical.byContradiction fun hc => h (.inl (by omega))
      have hb : bef (l.getD (child l i n) w0) (l.getD i w0) := Classical.byContradiction fun hc => h (.inr hc)
      have h3 := child_gt l i n
      have h4 := child_lt (l := l) hlt
      have h5 := child_par (l := l) (i := i) (n := n)
      have hl := fun (j : Nat) (a : j < n) (b : 0 < j) (c : (j - 1) / 2 = i) => child_least (l := l) a b c
      generalize child l i n = c at hb h3 h4 h5 hl
      have hil : i < l.length := by omega
      have hcl : c < l.length := by omega
      refine downF_hp f _ c n (by omega) h4 (by rw [swapS_len]; exact hn) ?_ ?_
      · intro j hj hjn hjc
        rw [swapS_get hil hcl, swapS_get hil hcl, if_neg hjc]
        by_cases hp : (j - 1) / 2 = i
        · rw [if_pos hp]
          by_cases hc : j = c
          · rw [if_pos hc]; exact bef_asymm hb
          · rw [if_neg hc, if_neg (by omega)]
            exact hl j hjn hj hp
        · rw [if_neg hp]
          by_cases hc : j = c
          · subst hc; exact absurd h5 hp
          · rw [if_neg hc]
            by_cases hji : j = i
            · subst hji
              rw [if_pos rfl]
              exact h2 c (by omega) h4 h5 hj
            · rw [if_neg hji]
              exact h1 j hj hjn hp
      · intro j hj hjn hjc hc0
        rw [swapS_get hil hcl, swapS_get hil hcl, if_neg (show ¬ j = c by omega), if_neg (show ¬ j = i by omega), h5, if_neg (show ¬ i = c by omega), if_pos rfl]
        have := h1 j hj hjn (by omega)
        rw [hjc] at this
        exact this
theorem downF_perm : ∀ (f : Nat) (l : List W) (i n : Nat), n ≤ l.length → (downF f l i n).Perm l
  | 0, _, _, _, _ => .refl _
  | f + 1, l, i, n, hn => by
    rw [downF]
    split
    · exact .refl _
    · next h =>
      have hlt : 2 * i + 1 < n := Classical.byContradiction fun hc => h (.inl (by omega))
      have h3 := child_gt l i n
      have h4 := child_lt (l := l) hlt
      exact (downF_perm f _ _ n (by rw [swapS_len]; exact hn)).trans (swapS_perm (by omega) (by omega))
theorem downF_get : ∀ (f : Nat) (l : List W) (i n j : Nat), n ≤ l.length → n ≤ j → (downF f l i n).getD j w0 = l.getD j w0
  | 0, _, _, _, _, _, _ => rfl
  | f + 1, l, i, n, j, hn, hj => by
    rw [downF]
    split
    · rfl
    · next h =>
      have hlt : 2 * i + 1 < n := Classical.byContradiction fun hc => h (.inl (by omega))
      have h3 := child_gt l i n
      have h4 := child_lt (l := l) hlt
      rw [downF_get f _ _ n j (by rw [swapS_len]; exact hn) hj, swapS_get (by omega) (by omega), if_neg (by omega), if_neg (by omega)]
theorem getD_take {l : List W} {n j : Nat} (h : j < n) : (l.take n).getD j w0 = l.getD j w0 := by
  rw [List.getD_eq_getElem?_getD, List.getD_eq_getElem?_getD, List.getElem?_take, if_pos h]
/-- what is taken is the first, the least; the others are the rest, in a heap -/
theorem pop_spec {l : List W} (hp : Hp l l.length) (h0 : 0 < l.length) :
    (downS (swapS l 0 (l.length - 1)) 0 (l.length - 1)).getD (l.length - 1) w0 = l.getD 0 w0 ∧
    (((downS (swapS l 0 (l.length - 1)) 0 (l.length - 1)).take (l.length - 1)) ++ [l.getD 0 w0]).Perm l ∧
    Hp ((downS (swapS l 0 (l.length - 1)) 0 (l.length - 1)).take (l.length - 1)) (l.length - 1) := by
  obtain ⟨n, hn⟩ : ∃ n, l.length = n + 1 := ⟨l.length - 1, by omega⟩
  rw [hn, Nat.add_sub_cancel]
  have hsl : (swapS l 0 n).length = n + 1 := by rw [swapS_len, hn]
  have hg : (downS (swapS l 0 n) 0 n).getD n w0 = l.getD 0 w0 := by
    rw [downS, downF_get _ _ _ _ _ (by omega) (Nat.le_refl _), swapS_get (by omega) (by omega), if_pos rfl]
  have hpm : (downS (swapS l 0 n) 0 n).Perm l := (downF_perm _ _ _ _ (by omega)).trans (swapS_perm (by omega) (by omega))
  have hdl : (downS (swapS l 0 n) 0 n).length = n + 1 := by rw [downS_len, hsl]
  have hsp : (downS (swapS l 0 n) 0 n).take n ++ [l.getD 0 w0] = downS (swapS l 0 n) 0 n := by
    rw [← hg]
    generalize downS (swapS l 0 n) 0 n = d at hdl
    conv => rhs; rw [← List.take_append_drop n d, List.drop_eq_getElem_cons (by omega), List.drop_eq_nil_of_le (show d.length ≤ n + 1 by omega)]
    rw [List.getD_eq_getElem?_getD, List.getElem?_eq_getElem (by omega)]
    rfl
  refine ⟨hg, by rw [hsp]; exact hpm, ?_⟩
  intro j hj hjn
  rw [getD_take hjn, getD_take (by omega)]
  rcases Nat.eq_zero_or_pos n with h | h
  · omega
  · refine downF_hp _ _ 0 n (by omega) h (by omega) ?_ (fun _ _ _ _ h => absurd h (Nat.lt_irrefl _)) j hj hjn
    intro i hi hin hip
    rw [swapS_get (by omega) (by omega), swapS_get (by omega) (by omega), if_neg (by omega), if_neg (by omega), if_neg (by omega), if_neg hip]
    exact hp i hi (by omega)
end Go.Proofs.Ytfddplpljjlgiaa.Bs

namespace Go.Proofs.Ytfddplpljjlgiaa.Bs
open Go Fw Go.Proofs.Ytfddplpljjlgiaa
set_option linter.unusedSimpArgs false
set_option linter.unusedVariables false
theorem wrows_up {l : List W} {x : W} : ∀ y, y ∈ wrows (upS (l ++ [x]) l.length) → y ∈ wrows l ∨ y ∈ [(x.dv, 1, ints .u8 x.data)] := fun y hy => by
  obtain ⟨z, hz, rfl⟩ := List.mem_map.1 hy
  rcases List.mem_append.1 ((upS_perm (by simp)).mem_iff.1 hz) with h | h
  · exact .inl (wrows_mem h)
  · rw [List.mem_singleton.1 h]; exact .inr (List.mem_singleton.2 rfl)
theorem wrows_sub {l l' : List W} (h : ∀ x, x ∈ l → x ∈ l') : ∀ y, y ∈ wrows l → y ∈ wrows l' := fun y hy => by
  obtain ⟨z, hz, rfl⟩ := List.mem_map.1 hy
  exact wrows_mem (h z hz)
def idOf (ids : List Int) (k : Nat) : Int := iand .i64 (ids.getD k 0) 2047
theorem idOf_range (ids : List Int) (k : Nat) : 0 ≤ idOf ids k ∧ idOf ids k ≤ 2047 := iand_mask _ 2047 (by decide)
/-- the k-th that was sent -/
def Snt (ids : List Int) (n : Nat) (x : W) : Prop := ∃ k, k < n ∧ x.came = ((k + 1 : Nat) : Int) ∧ x.data = [(k : Int)] ∧ x.id = idOf ids k
theorem Snt.more {ids : List Int} {n m : Nat} {x : W} (h : Snt ids n x) (hm : n ≤ m) : Snt ids m x := by
  obtain ⟨k, h1, h2⟩ := h
  exact ⟨k, by omega, h2⟩
structure Q1 (ids : List Int) (n : Nat) (l : List W) : Prop where
  hp : Hp l l.length
  snt : ∀ x, x ∈ l → Snt ids n x
  apart : l.Pairwise fun x y => x.came ≠ y.came
  one : ∀ x, x ∈ l → x.dv.oneCell' = true
theorem pw_perm {l l' : List W} (h : l.Perm l') (hl : l.Pairwise fun x y => x.came ≠ y.came) : l'.Pairwise fun x y => x.came ≠ y.came :=
  h.pairwise hl (fun h => Ne.symm h)
theorem Q1.nil (ids : List Int) : Q1 ids 0 [] := ⟨(fun j _ hj => absurd hj (Nat.not_lt_zero _)), (fun x hx => by cases hx), List.Pairwise.nil, (fun x hx => by cases hx)⟩
theorem Q1.push {ids : List Int} {n : Nat} {l : List W} (h : Q1 ids n l) {v : Value} (hv : v.oneCell' = true) : Q1 ids (n + 1) (upS (l ++ [⟨idOf ids n, v, [(n : Int)], ((n + 1 : Nat) : Int)⟩]) l.length) := by
  have hpm := upS_perm (l := l ++ [(⟨idOf ids n, v, [(n : Int)], ((n + 1 : Nat) : Int)⟩ : W)]) (j := l.length) (by simp)
  refine ⟨?_, ?_, ?_, ?_⟩
  · rw [upS_len, List.length_append]
    exact push_hp h.hp _
  · intro x hx
    rcases List.mem_append.1 (hpm.mem_iff.1 hx) with hx | hx
    · exact (h.snt x hx).more (Nat.le_succ _)
    · rw [List.mem_singleton.1 hx]
      exact ⟨n, Nat.lt_succ_self _, rfl, rfl, rfl⟩
  · refine pw_perm hpm.symm ?_
    rw [List.pairwise_append]
    refine ⟨h.apart, List.pairwise_singleton _ _, fun x hx y hy => ?_⟩
    rw [List.mem_singleton.1 hy]
    obtain ⟨k, hk, hc, _⟩ := h.snt x hx
    rw [hc]
    simp only [ne_eq, Int.natCast_inj]
    omega
  · intro x hx
    rcases List.mem_append.1 (hpm.mem_iff.1 hx) with hx | hx
    · exact h.one x hx
    · rw [List.mem_singleton.1 hx]; exact hv
def rest (l : List W) : List W := (downS (swapS l 0 (l.length - 1)) 0 (l.length - 1)).take (l.length - 1)
def first (l : List W) : W := l.getD 0 w0
theorem rest_len {l : List W} : (rest l).length = l.length - 1 := by
  rw [rest, List.length_take, downS_len, swapS_len]; omega
theorem rest_perm {l : List W} (hp : Hp l l.length) (h0 : 0 < l.length) : (rest l ++ [first l]).Perm l := (pop_spec hp h0).2.1
theorem rest_mem {l : List W} (hp : Hp l l.length) (h0 : 0 < l.length) {x : W} (hx : x ∈ rest l) : x ∈ l := (rest_perm hp h0).mem_iff.1 (List.mem_append_left _ hx)
theorem first_mem {l : List W} (h0 : 0 < l.length) : first l ∈ l := getD_mem h0
/-- none that waits is among those seen, all come behind the last -/
def Q2 (ks : List Int) (last place : Int) (l : List W) : Prop := ∀ x, x ∈ l → (∀ k, x.data = [k] → k ∉ ks) ∧ (last < x.id ∨ (last = x.id ∧ place + 1 < x.came))
theorem Q2.start {ids : List Int} {n : Nat} {l : List W} (h : Q1 ids n l) : Q2 [] (-1) (-1) l := fun x hx => by
  obtain ⟨k, _, _, _, hi⟩ := h.snt x hx
  have := idOf_range ids k
  exact ⟨(fun _ _ h => by cases h), .inl (by omega)⟩
end Go.Proofs.Ytfddplpljjlgiaa.Bs

namespace Go.Proofs.Ytfddplpljjlgiaa.Fw
open Go Go.RowKit Go.Proofs.Ytfddplpljjlgiaa
set_option linter.unusedSimpArgs false
set_option linter.unusedVariables false
theorem strOf_list (l : List Int) : (strOf l).toList = l.map fun x => UInt8.ofNat x.toNat := by
  rw [ByteArray.toList_eq]
  rfl
theorem strOf_inj : ∀ {l m : List Int}, Sha.Byt l → Sha.Byt m → (strOf l).toList = (strOf m).toList → l = m
  | [], [], _, _, _ => rfl
  | [], _ :: _, _, _, h => by rw [strOf_list, strOf_list] at h; simp at h
  | _ :: _, [], _, _, h => by rw [strOf_list, strOf_list] at h; simp at h
  | x :: l, y :: m, hl, hm, h => by
    rw [strOf_list, strOf_list, List.map_cons, List.map_cons, List.cons.injEq] at h
    have hx := hl x (by simp)
    have hy := hm y (by simp)
    have e : x = y := by
      have h1 := congrArg UInt8.toNat h.1
      simp at h1
      omega
    have e2 : l = m := strOf_inj (fun c hc => hl c (by simp [hc])) (fun c hc => hm c (by simp [hc])) (by rw [strOf_list, strOf_list]; exact h.2)
    rw [e, e2]
section
variable {P : Program} {E : Env} {L : List (Nat × Value)} {H : List (Nat × Ent)} {F : List (Nat × FE)}
variable {dst : Option Tmp} {ty : TypeId} {pos : String} {af : Array Edge} {gd : Option (Nat × Bool)}
theorem str_beq {l m : List Int} (hl : Sha.Byt l) (hm : Sha.Byt m) : ((strOf l).toList == (strOf m).toList) = decide (l = m) := by
  rw [Bool.eq_iff_iff, decide_eq_true_eq, beq_iff_eq]
  exact ⟨strOf_inj hl hm, fun h => by rw [h]⟩
theorem ev_neq_strb {T T' : Nat} {x y : Operand} {l m : List Int} (hx : ev L x = some (.string (strOf l))) (hy : ev L y = some (.string (strOf m))) (hl : Sha.Byt l) (hm : Sha.Byt m) : Ev P ⟨dst, .binOp .neq T x y T', ty, pos, af, gd⟩ E L H F (.bool (decide (¬ l = m))) :=
  fun a w fa _ => by
    have h := str_beq hl hm
    simp [execOp, fa.ev hx, fa.ev hy, eqGuard, binOp, Op.stringOp, bne, h]
theorem ev_neq_bool {T T' : Nat} {x y : Operand} {b c : Bool} (hT : P.underlying T = some .bool) (hx : ev L x = some (.bool b)) (hy : ev L y = some (.bool c)) : Ev P ⟨dst, .binOp .neq T x y T', ty, pos, af, gd⟩ E L H F (.bool (!(b == c))) :=
  fun a w fa _ => by
    have e0 : ∀ d, (Op.equalIn (d + 1) T (.bool b) (.bool c)).run P w = .ok (b == c) w := fun d => by simp [Op.equalIn, run_und hT]
    have e4 : (Op.equalIn Op.maxDepth T (.bool b) (.bool c)).run P w = .ok (b == c) w := e0 9999
    simp only [execOp, fa.ev hx, fa.ev hy, eqGuard, binOp, Op.equal, Sem.run_bind]
    simp [e4]
end
end Go.Proofs.Ytfddplpljjlgiaa.Fw

namespace Go.Proofs.Ytfddplpljjlgiaa
open Go Go.RowKit Fw
open Bs
set_option linter.unusedVariables false
set_option linter.unusedSimpArgs false
set_option maxRecDepth 20000 in
set_option maxHeartbeats 1000000 in
theorem next_emp (b : Nat) (qv c : Value) (w : World) (h : Lies w b 0 [qv, c]) (h' : Rd w qv 3 (Bs.wflat [])) : Calls Try.prog 9 #[.pointer (some ⟨b, 0, none⟩)] w (PostV w (.tuple #[.agg (List.toArray [.int .i64 0, .slice none 0 0]), .bool false])) := by
  refine calls_at (vs := [.pointer (some ⟨b, 0, none⟩)]) (X := []) (H := []) (F := [(21, .mem b 0 [qv, c]), (20, .sl (qv) 3 (Bs.wflat ([])))]) 22 Try.func9 rfl rfl rfl ((Sat.rd0 20 h').read (f := .mem b 0 [qv, c]) 21 h off_nil) ?_
  refine cd_seq ?_
  refine cd_region ?_
  refine st_alloc (h := 2) ty29 rfl rfl rfl (fun b2 => ?_)
  refine st (ev_assign rfl) rfl rfl rfl ?_
  refine op_nil ?_
  refine ax_then ?_
  refine At.regs (L' := [(0, _), (2, _), (3, _)]) (.cons rfl (.cons rfl (.cons rfl (.nil _)))) ?_
  refine cd_seq ?_
  refine cd_seq ?_
  refine cd_region ?_
  refine st (ev_move rfl) rfl rfl rfl ?_
  refine st_callv has10 rfl (fun w1 sw => blen_any b qv c [] w1 (sw.mem_lies (h := 21) rfl) (sw.sl_rd (h := 20) rfl)) rfl rfl ?_
  refine st (ev_eql rfl rfl) rfl rfl rfl ?_
  refine op_nil ?_
  refine ax_then ?_
  refine At.regs (L' := [(0, _), (2, _), (3, _), (8, _)]) (.cons rfl (.cons rfl (.cons rfl (.cons rfl (.nil _))))) ?_
  refine cd_if_t rfl (rfl) ?_
  refine cd_seq ?_
  refine cd_region ?_
  refine st (ev_build_struct ty29 rfl pl29 rfl rfl) rfl rfl rfl ?_
  refine st_store_all 2 ty29 rfl rfl rfl rfl (by first | omega | (simp only [List.length_append, List.length_cons, List.length_nil, List.length_set, List.length_replicate, List.length_take, List.length_drop, ints_length, wr_length] <;> omega) | rfl) (by first | (intro u hu; simp at hu; rcases hu with rfl | rfl <;> rfl) | (simp [Value.oneCell'])) (by first | omega | (simp only [List.length_append, List.length_cons, List.length_nil, List.length_set, List.length_replicate, List.length_take, List.length_drop, ints_length, wr_length] <;> omega) | rfl) rfl ?_
  refine st (ev_assign rfl) rfl rfl rfl ?_
  refine op_nil ?_
  refine ax_then ?_
  refine At.regs (L' := [(0, _), (2, _), (3, _)]) (.cons rfl (.cons rfl (.cons rfl (.nil _)))) ?_
  refine cd_ret ?_
  refine ax_then_ret ?_
  refine rt_cell_tmp (h0 := 2) (.inl rfl) Try.results9 ty29 rfl rfl rfl rfl rfl ?_
  exact fun w1 sw => ⟨rfl, sw.gives (.nil _)⟩
theorem next_rest (b : Nat) (qv : Value) (l : List Bs.W) (came : Nat) (w : World) (hp : Bs.Hp l l.length) (hpos : 0 < l.length) (hll : l.length ≤ 100000) (ho : ∀ x, x ∈ l → x.dv.oneCell' = true) (hb : w.heap[b]? = some (.cells (List.toArray [qv, .int .i64 (came : Nat)]) 52)) (hv : Own w qv 57 3 (Bs.wflat l)) (hbv : b ∉ blkOf qv) :
    Calls Try.prog 9 #[.pointer (some ⟨b, 0, none⟩)] w (Post (ι := Value) w (b :: blkOf qv) (fun _ => True) (fun _ => .tuple #[.agg (List.toArray [.int .i64 (Bs.first l).id, (Bs.first l).dv]), .bool true]) (fun x => [(0, .blk (b) (.cells ([x, .int .i64 ((came : Nat))]).toArray 52)), (1, .own (x) 57 3 (Bs.wflat (Bs.rest l)))])) := by
  refine (next_ok b qv l came w hpos hll ho hb hv hbv).mono ?_
  rintro e w' ⟨_, _, rfl, g⟩
  rw [(Bs.pop_spec hp hpos).1]
  exact ⟨_, trivial, rfl, g⟩
end Go.Proofs.Ytfddplpljjlgiaa

namespace Go.Proofs.Ytfddplpljjlgiaa.Fw
open Go Go.RowKit Go.Proofs.Ytfddplpljjlgiaa
section
variable {K : Act → World → Prop} {E : Env} {L : List (Nat × Value)} {H : List (Nat × Ent)} {F : List (Nat × FE)}
theorem at_rowsmap {i : Nat} {rs rs' : List (Value × Nat × List Value)} (j : Nat) (hf : lk F i = some (.rows rs))
    (hs : ∀ y, y ∈ rs' → (∃ z, z ∈ rs ∧ (∀ w, Rd w z.1 z.2.1 z.2.2 → Rd w y.1 y.2.1 y.2.2) ∧ (∀ b, b ∈ blkOf y.1 → b ∈ blkOf z.1) ∧ (z.2.2 = [] → y.2.2 = [])) ∨ (y.2.2 = [] ∧ ∀ w, Rd w y.1 y.2.1 y.2.2))
    (k : At K E L H ((j, .rows rs') :: F)) : At K E L H F := fun a w fa sw =>
  k a w fa (sw.read j (f := .rows rs') (fun y hy => by
    rcases hs y hy with ⟨z, hz, h1, _, _⟩ | ⟨_, h⟩
    · exact h1 _ (sw.rd _ _ hf z hz)
    · exact h _) (fun h' e hh b hb y hy => by
    rcases hs y hy with ⟨z, hz, _, h2, h3⟩ | ⟨h, _⟩
    · exact (sw.off _ _ _ _ hf hh b hb z hz).imp h3 (fun h h4 => h (h2 b h4))
    · exact .inl h))
end
theorem blkOf_cut2 (sz : Nat) (v : Value) (lo hi : Nat) : ∀ b, b ∈ blkOf (cutAt sz v lo hi) → b ∈ blkOf v := by
  intro b hb
  cases v with
  | slice a n c =>
    cases a with
    | none => simp only [cutAt] at hb; split at hb <;> simp [blkOf] at hb
    | some x =>
      have e : ∀ y : Addr, (y.add (lo * sz)).block = y.block := fun y => by unfold Addr.add; split <;> rfl
      simp only [cutAt] at hb
      split at hb
      · exact hb
      · simp only [blkOf, Option.map_some, e] at hb ⊢; exact hb
  | _ => simp [cutAt, blkOf] at hb
end Go.Proofs.Ytfddplpljjlgiaa.Fw
namespace Go.Proofs.Ytfddplpljjlgiaa.Bs
open Go Fw Go.Proofs.Ytfddplpljjlgiaa
set_option linter.unusedSimpArgs false
set_option linter.unusedVariables false
theorem rd_nilz {w : World} {sz : Nat} : Rd w (.slice none 0 0) sz [] := ⟨none, 0, 0, rfl, by simp, Nat.le_refl _, fun _ => rfl, fun x hx => by cases hx⟩
theorem fcut_lo {w : World} {v : Value} {es : List W} {k : Nat} (h : Rd w v 2 (fflat es)) (hk : k ≤ es.length) : Rd w (cutAt 2 v 0 k) 2 (fflat (es.take k)) := by
  have := rd_cut (n := es.length) h (by decide) (fflat_len es) (Nat.zero_le k) hk
  rwa [Nat.zero_mul, List.drop_zero, Nat.sub_zero, fflat_take _ hk] at this
theorem fcut_hi {w : World} {v : Value} {es : List W} {k : Nat} (h : Rd w v 2 (fflat es)) (hk : k ≤ es.length) : Rd w (cutAt 2 v k es.length) 2 (fflat (es.drop k)) := by
  have := rd_cut (n := es.length) h (by decide) (fflat_len es) hk (Nat.le_refl _)
  rwa [fflat_drop, List.take_of_length_le (by rw [fflat_len, List.length_drop]; omega)] at this
theorem fflat_at {l : List W} {i : Nat} (hi : i < l.length) : (fflat l)[i * 2 + 0]? = some (.int .i64 (l.getD i w0).id) ∧ (fflat l)[i * 2 + 1]? = some (l.getD i w0).dv := by
  have h := fflat_get hi
  have h2 : ∀ k, k < 2 → (fflat l)[i * 2 + k]? = (fcells (l.getD i w0))[k]? := fun k hk => by
    rw [← h, List.getElem?_take, if_pos hk, List.getElem?_drop]
  exact ⟨(h2 0 (by decide)).trans rfl, (h2 1 (by decide)).trans rfl⟩
structure AC where
  kind : Int
  id : Int
  dv : Value
  data : List Int
def a0 : AC := ⟨0, 0, .slice none 0 0, []⟩
def acells (x : AC) : List Value := [.int .i64 x.kind, .int .i64 x.id, x.dv]
def aflat (l : List AC) : List Value := l.flatMap acells
def arows (l : List AC) : List (Value × Nat × List Value) := l.map fun x => (x.dv, 1, ints .u8 x.data)
theorem aflat_len : ∀ (l : List AC), (aflat l).length = l.length * 3
  | [] => rfl
  | x :: l => by
    have := aflat_len l
    rw [aflat] at this
    rw [aflat, List.flatMap_cons, List.length_append, List.length_cons, this]
    simp [acells]
    omega
theorem aflat_drop : ∀ (l : List AC) (i : Nat), (aflat l).drop (i * 3) = aflat (l.drop i)
  | l, 0 => by simp
  | [], i + 1 => by simp [aflat]
  | x :: l, i + 1 => by
    rw [aflat, List.flatMap_cons, show (i + 1) * 3 = 3 + i * 3 by omega, ← List.drop_drop, List.drop_left' (by rfl), List.drop_succ_cons]
    exact aflat_drop l i
theorem aflat_get {l : List AC} {i : Nat} (hi : i < l.length) : ((aflat l).drop (i * 3)).take 3 = acells (l.getD i a0) := by
  rw [aflat_drop, List.drop_eq_getElem_cons hi, aflat, List.flatMap_cons, List.take_left' (by rfl), List.getD_eq_getElem?_getD, List.getElem?_eq_getElem hi]
  rfl
theorem aflat_at {l : List AC} {i k : Nat} (hi : i < l.length) (hk : k < 3) : (aflat l)[i * 3 + k]? = (acells (l.getD i a0))[k]? := by
  rw [← aflat_get hi, List.getElem?_take, if_pos hk, List.getElem?_drop]
theorem aflat_fr {l : List AC} {i : Nat} (hi : i < l.length) : ((aflat l).drop (i * 3 + 1)).take 2 = [.int .i64 (l.getD i a0).id, (l.getD i a0).dv] := by
  have h := congrArg (fun z => z.drop 1) (aflat_get hi)
  simp only [List.drop_take, List.drop_drop] at h
  exact h
theorem agetD_mem {l : List AC} {i : Nat} (h : i < l.length) : l.getD i a0 ∈ l := by
  rw [List.getD_eq_getElem?_getD, List.getElem?_eq_getElem h]
  exact List.getElem_mem h
theorem arows_mem {l : List AC} {i : Nat} (h : i < l.length) : ((l.getD i a0).dv, 1, ints .u8 (l.getD i a0).data) ∈ arows l := List.mem_map.2 ⟨_, agetD_mem h, rfl⟩
/-- a frame that may be -/
def isF (id : Int) (data : List Int) : Prop := 0 ≤ id ∧ id ≤ 2047 ∧ data.length ≤ 8
instance (id : Int) (data : List Int) : Decidable (isF id data) := by unfold isF; infer_instance
def sres (n : Nat) (id : Int) (data : List Int) : Int := if isF id data then (if n < 64 then 0 else 12) else 1
/-- where a frame goes -/
def At_ (fl : List W) (id : Int) (i : Nat) : Prop := i ≤ fl.length ∧ (∀ j, i ≤ j → j < fl.length → id < (fl.getD j w0).id) ∧ (i = 0 ∨ (fl.getD (i - 1) w0).id ≤ id)
def ins (fl : List W) (i : Nat) (x : W) : List W := fl.take i ++ x :: fl.drop i
def InsR (fl : List W) (id : Int) (data : List Int) (fl' : List W) : Prop :=
  (isF id data ∧ fl.length < 64 ∧ ∃ i v, At_ fl id i ∧ v.oneCell' = true ∧ fl' = ins fl i ⟨id, v, data, 0⟩) ∨ (¬ (isF id data ∧ fl.length < 64) ∧ fl' = fl)
def InsQ (l : List W) (came : Nat) (id : Int) (data : List Int) (l' : List W) (came' : Nat) : Prop :=
  (isF id data ∧ l.length < 64 ∧ ∃ v, v.oneCell' = true ∧ l' = upS (l ++ [⟨id, v, data, ((came + 1 : Nat) : Int)⟩]) l.length ∧ came' = came + 1) ∨ (¬ (isF id data ∧ l.length < 64) ∧ l' = l ∧ came' = came)
structure Rl (l fl : List W) (came : Nat) : Prop where
  hp : Hp l l.length
  apart : l.Pairwise fun x y => x.came ≠ y.came
  bnd : ∀ x, x ∈ l → x.came ≤ (came : Int)
  dat : ∀ x, x ∈ l → Sha.Byt x.data ∧ x.data.length ≤ 8
  one : ∀ x, x ∈ l → x.dv.oneCell' = true
  fone : ∀ x, x ∈ fl → x.dv.oneCell' = true
  len : l.length ≤ 64
  lk : ∃ ls : List W, ls.Perm l ∧ Srt ls ∧ ls.map key = fl.map key
theorem Rl.nil : Rl [] [] 0 := ⟨(fun j _ hj => absurd hj (Nat.not_lt_zero _)), List.Pairwise.nil, (fun x hx => by cases hx), (fun x hx => by cases hx), (fun x hx => by cases hx), (fun x hx => by cases hx), (Nat.zero_le _), ⟨[], List.Perm.refl _, List.Pairwise.nil, rfl⟩⟩
theorem Rl.flen {l fl : List W} {came : Nat} (h : Rl l fl came) : fl.length = l.length := by
  obtain ⟨ls, h1, _, h3⟩ := h.lk
  have := congrArg List.length h3
  rw [List.length_map, List.length_map] at this
  rw [← this, h1.length_eq]
theorem key_getD {a b : List W} (h : a.map key = b.map key) (i : Nat) : key (a.getD i w0) = key (b.getD i w0) := by
  have h1 : ∀ l : List W, key (l.getD i w0) = (l.map key).getD i (key w0) := fun l => by
    rw [List.getD_eq_getElem?_getD, List.getD_eq_getElem?_getD, List.getElem?_map]
    cases l[i]? <;> rfl
  rw [h1, h1, h]
theorem Rl.fdat {l fl : List W} {came : Nat} (h : Rl l fl came) {i : Nat} (hi : i < fl.length) : Sha.Byt (fl.getD i w0).data ∧ (fl.getD i w0).data.length ≤ 8 := by
  have hl := h.flen
  obtain ⟨ls, h1, _, h3⟩ := h.lk
  have hk := key_getD h3 i
  have h4 : (ls.getD i w0).data = (fl.getD i w0).data := congrArg Prod.snd hk
  rw [← h4]
  exact h.dat _ (h1.mem_iff.1 (getD_mem (by rw [h1.length_eq]; omega)))
theorem mem_apart {l : List W} (hl : l.Pairwise fun x y => x.came ≠ y.came) {x y : W} (hx : x ∈ l) (hy : y ∈ l) (h : x.came = y.came) : x = y := by
  induction hl with
  | nil => cases hx
  | @cons a l ha hl ih =>
    rcases List.mem_cons.1 hx with h1 | hx <;> rcases List.mem_cons.1 hy with h2 | hy
    · rw [h1, h2]
    · rw [h1] at h; exact absurd h (ha y hy)
    · rw [h2] at h; exact absurd h.symm (ha x hx)
    · exact ih hx hy
theorem bef_tri {x y : W} (h1 : ¬ bef x y) (h2 : ¬ bef y x) : x.id = y.id ∧ x.came = y.came := by unfold bef at *; omega
theorem srt_unique {l a b : List W} (hl : l.Pairwise fun x y => x.came ≠ y.came) (ha : a.Perm l) (hb : b.Perm l) (sa : Srt a) (sb : Srt b) : a = b := by
  refine List.Perm.eq_of_pairwise (le := fun x y => ¬ bef y x) ?_ sa sb (ha.trans hb.symm)
  intro x y hx hy h1 h2
  exact mem_apart hl (ha.mem_iff.1 hx) (hb.mem_iff.1 hy) (bef_tri h2 h1).2
theorem srt_mono {ls : List W} (h : Srt ls) {i j : Nat} (hij : i ≤ j) (hj : j < ls.length) : (ls.getD i w0).id ≤ (ls.getD j w0).id := by
  rcases Nat.lt_or_eq_of_le hij with hlt | rfl
  · have := List.pairwise_iff_getElem.1 h i j (by omega) hj hlt
    rw [List.getD_eq_getElem?_getD, List.getD_eq_getElem?_getD, List.getElem?_eq_getElem hj, List.getElem?_eq_getElem (by omega : i < ls.length)]
    show ls[i].id ≤ ls[j].id
    unfold bef at this
    omega
  · exact Int.le_refl _
theorem Rl.send {l fl l' fl' : List W} {came came' : Nat} {id : Int} {data : List Int} (h : Rl l fl came) (hB : Sha.Byt data) (hq : InsQ l came id data l' came') (hr : InsR fl id data fl') : Rl l' fl' came' := by
  have hfl := h.flen
  rcases hq with ⟨hF, hlt, v, hv, rfl, rfl⟩ | ⟨hn, rfl, rfl⟩
  · rcases hr with ⟨_, _, i, v', ⟨hi, ha, hz⟩, hv', rfl⟩ | ⟨hn, _⟩
    · obtain ⟨n, hnw⟩ : ∃ n : W, n = ⟨id, v, data, ((came + 1 : Nat) : Int)⟩ := ⟨_, rfl⟩
      rw [← hnw]
      have hnid : n.id = id := by rw [hnw]
      have hnc : n.came = ((came + 1 : Nat) : Int) := by rw [hnw]
      have hnd : n.data = data := by rw [hnw]
      have hnv : n.dv = v := by rw [hnw]
      have hpm := upS_perm (l := l ++ [n]) (j := l.length) (by simp)
      have hmem : ∀ x, x ∈ upS (l ++ [n]) l.length → x ∈ l ∨ x = n := fun x hx => (List.mem_append.1 (hpm.mem_iff.1 hx)).imp (fun h => h) List.mem_singleton.1
      refine ⟨?_, ?_, fun x hx => ?_, fun x hx => ?_, fun x hx => ?_, fun x hx => ?_, ?_, ?_⟩
      · rw [upS_len, List.length_append]; exact push_hp h.hp _
      · refine pw_perm hpm.symm ?_
        rw [List.pairwise_append]
        refine ⟨h.apart, List.pairwise_singleton _ _, fun x hx y hy => ?_⟩
        rw [List.mem_singleton.1 hy, hnc]
        have := h.bnd x hx
        omega
      · rcases hmem x hx with hx | rfl
        · have := h.bnd x hx; omega
        · rw [hnc]; exact Int.le_refl _
      · rcases hmem x hx with hx | rfl
        · exact h.dat x hx
        · rw [hnd]; exact ⟨hB, hF.2.2⟩
      · rcases hmem x hx with hx | rfl
        · exact h.one x hx
        · rw [hnv]; exact hv
      · rcases List.mem_append.1 hx with hx | hx
        · exact h.fone x (List.mem_of_mem_take hx)
        · rcases List.mem_cons.1 hx with rfl | hx
          · exact hv'
          · exact h.fone x (List.mem_of_mem_drop hx)
      · rw [upS_len, List.length_append]; show l.length + 1 ≤ 64; omega
      · obtain ⟨ls, h1, h2, h3⟩ := h.lk
        have hlsl : ls.length = l.length := h1.length_eq
        have hid : ∀ j, (ls.getD j w0).id = (fl.getD j w0).id := fun j => congrArg Prod.fst (key_getD h3 j)
        refine ⟨ls.take i ++ n :: ls.drop i, ?_, ?_, ?_⟩
        · refine List.Perm.trans ?_ hpm.symm
          refine List.Perm.trans (List.perm_middle) ?_
          rw [List.take_append_drop]
          exact (List.Perm.cons n h1).trans (List.perm_append_singleton n l).symm
        · unfold Srt
          rw [List.pairwise_append]
          have hsp : ls = ls.take i ++ ls.drop i := (List.take_append_drop i ls).symm
          unfold Srt at h2
          rw [hsp, List.pairwise_append] at h2
          refine ⟨h2.1, List.pairwise_cons.2 ⟨fun y hy => ?_, h2.2.1⟩, fun x hx y hy => ?_⟩
          · obtain ⟨j, hj, rfl⟩ := List.mem_iff_getElem.1 hy
            rw [List.length_drop] at hj
            have h5 := ha (i + j) (by omega) (by omega)
            rw [← hid, List.getD_eq_getElem?_getD, List.getElem?_eq_getElem (by omega)] at h5
            have h6 : id < ls[i + j].id := h5
            rw [List.getElem_drop]
            unfold bef
            rw [hnid]
            omega
          · rcases List.mem_cons.1 hy with rfl | hy
            · obtain ⟨j, hj, rfl⟩ := List.mem_iff_getElem.1 hx
              rw [List.length_take] at hj
              rw [List.getElem_take]
              have hjl : j < ls.length := by omega
              have h5 : (ls.getD j w0).id ≤ id := by
                rcases hz with hz | hz
                · omega
                · rw [← hid] at hz
                  exact Int.le_trans (srt_mono (by unfold Srt; rw [hsp, List.pairwise_append]; exact h2) (by omega) (by omega)) hz
              rw [List.getD_eq_getElem?_getD, List.getElem?_eq_getElem hjl] at h5
              have h6 : ls[j].id ≤ id := h5
              have h7 := h.bnd _ (h1.mem_iff.1 (List.getElem_mem hjl))
              unfold bef
              rw [hnid, hnc]
              omega
            · exact h2.2.2 x hx y hy
        · unfold ins
          rw [List.map_append, List.map_append, List.map_cons, List.map_cons, List.map_take, List.map_take, List.map_drop, List.map_drop, h3]
          rw [hnw]; rfl
    · exact absurd ⟨hF, by omega⟩ hn
  · rcases hr with ⟨hF, hlt, _⟩ | ⟨_, rfl⟩
    · exact absurd ⟨hF, by omega⟩ hn
    · exact h
theorem Rl.next {l fl : List W} {came : Nat} (h : Rl l fl came) : key (first l) = key (fl.getD 0 w0) ∧ Rl (rest l) fl.tail came := by
  have hfl := h.flen
  rcases Nat.eq_zero_or_pos l.length with h0 | h0
  · obtain rfl := List.length_eq_zero_iff.1 h0
    obtain rfl := List.length_eq_zero_iff.1 (hfl.trans h0)
    exact ⟨rfl, h⟩
  · have hpm := rest_perm h.hp h0
    have hm : ∀ x, x ∈ rest l → x ∈ l := fun x hx => rest_mem h.hp h0 hx
    have hpw := pw_perm hpm.symm h.apart
    rw [List.pairwise_append] at hpw
    obtain ⟨ls, h1, h2, h3⟩ := h.lk
    have hlsl : ls.length = l.length := h1.length_eq
    match ls, hlsl, h1, h2, h3 with
    | [], hlsl, _, _, _ => simp at hlsl; omega
    | c :: ls, hlsl, h1, h2, h3 =>
      match fl, hfl, h3 with
      | [], hfl, _ => simp at hfl; omega
      | g :: fl, hfl, h3 =>
        have hc : c = first l := by
          have hcm : c ∈ l := h1.mem_iff.1 (List.mem_cons_self ..)
          have e1 : ¬ bef c (first l) := by
            obtain ⟨j, hj, he⟩ := List.mem_iff_getElem.1 hcm
            have := hp_min h.hp j hj
            rw [List.getD_eq_getElem?_getD, List.getElem?_eq_getElem hj] at this
            have h5 : ¬ bef l[j] (first l) := this
            rw [he] at h5
            exact h5
          have e2 : ¬ bef (first l) c := by
            rcases List.mem_cons.1 (h1.mem_iff.2 (first_mem h0)) with h5 | h5
            · rw [h5]; exact bef_irrefl _
            · exact (List.pairwise_cons.1 h2).1 _ h5
          exact mem_apart h.apart hcm (first_mem h0) (bef_tri e1 e2).2
        have h4 : key c = key g := (List.cons.inj h3).1
        refine ⟨by rw [← hc]; exact h4, ⟨?_, hpw.1, fun x hx => h.bnd x (hm x hx), fun x hx => h.dat x (hm x hx), fun x hx => h.one x (hm x hx), fun x hx => h.fone x (List.mem_cons_of_mem _ hx), ?_, ls, ?_, (List.pairwise_cons.1 h2).2, (List.cons.inj h3).2⟩⟩
        · rw [rest_len]; exact (pop_spec h.hp h0).2.2
        · have := h.len; rw [rest_len]; omega
        · have h5 : (c :: ls).Perm (c :: rest l) := by
            refine h1.trans (hpm.symm.trans ?_)
            rw [hc]
            exact List.perm_append_singleton _ _
          exact (List.perm_cons c).1 h5
theorem Rl.list {l fl gl : List W} {came : Nat} (h : Rl l fl came) (hg : ∃ ls : List W, ls.Perm l ∧ Srt ls ∧ gl.map key = ls.map key) : gl.map key = fl.map key := by
  obtain ⟨a, a1, a2, a3⟩ := hg
  obtain ⟨b, b1, b2, b3⟩ := h.lk
  rw [a3, srt_unique h.apart a1 b1 a2 b2, b3]
theorem InsQ.came {l : List W} {came : Nat} {id : Int} {data : List Int} {l' : List W} {came' : Nat} (h : InsQ l came id data l' came') : came' ≤ came + 1 := by
  rcases h with ⟨_, _, _, _, _, rfl⟩ | ⟨_, _, rfl⟩ <;> omega
theorem first_one {l : List W} (ho : ∀ x, x ∈ l → x.dv.oneCell' = true) : (first l).dv.oneCell' = true := by
  rcases Nat.eq_zero_or_pos l.length with h | h
  · obtain rfl := List.length_eq_zero_iff.1 h; rfl
  · exact ho _ (first_mem h)
theorem next_rows {l : List W} (hp : Hp l l.length) : ∀ y, y ∈ ((first l).dv, 1, ints .u8 (first l).data) :: wrows (rest l) → (∃ z, z ∈ wrows l ∧ (∀ w, Rd w z.1 z.2.1 z.2.2 → Rd w y.1 y.2.1 y.2.2) ∧ (∀ b, b ∈ blkOf y.1 → b ∈ blkOf z.1) ∧ (z.2.2 = [] → y.2.2 = [])) ∨ (y.2.2 = [] ∧ ∀ w, Rd w y.1 y.2.1 y.2.2) := fun y hy => by
  rcases Nat.eq_zero_or_pos l.length with h | h
  · obtain rfl := List.length_eq_zero_iff.1 h
    rcases List.mem_cons.1 hy with rfl | hy
    · exact .inr ⟨rfl, fun w => rd_nilz⟩
    · cases hy
  · refine .inl ⟨y, ?_, fun _ h => h, fun _ h => h, fun h => h⟩
    rcases List.mem_cons.1 hy with rfl | hy
    · exact wrows_mem (first_mem h)
    · exact wrows_sub (fun x hx => rest_mem hp h hx) y hy
theorem rnext_rows {fl : List W} {fv x : Value} (h1 : ∀ w, Rd w fv 2 (fflat fl) → Rd w x 2 (fflat fl.tail)) (h2 : ∀ c, c ∈ blkOf x → c ∈ blkOf fv) : ∀ y, y ∈ (x, 2, fflat fl.tail) :: ((fl.getD 0 w0).dv, 1, ints .u8 (fl.getD 0 w0).data) :: wrows fl.tail → (∃ z, z ∈ (fv, 2, fflat fl) :: wrows fl ∧ (∀ w, Rd w z.1 z.2.1 z.2.2 → Rd w y.1 y.2.1 y.2.2) ∧ (∀ b, b ∈ blkOf y.1 → b ∈ blkOf z.1) ∧ (z.2.2 = [] → y.2.2 = [])) ∨ (y.2.2 = [] ∧ ∀ w, Rd w y.1 y.2.1 y.2.2) := fun y hy => by
  rcases List.mem_cons.1 hy with rfl | hy
  · refine .inl ⟨_, List.mem_cons_self .., h1, h2, fun h => ?_⟩
    have h3 : (fflat fl).length = 0 := by rw [show fflat fl = [] from h]; rfl
    rw [fflat_len] at h3
    have h4 : fl = [] := List.length_eq_zero_iff.1 (by omega)
    rw [h4]; rfl
  · rcases List.mem_cons.1 hy with rfl | hy
    · match fl with
      | [] => exact .inr ⟨rfl, fun w => rd_nilz⟩
      | c :: fl => exact .inl ⟨_, List.mem_cons_of_mem _ (wrows_mem (List.mem_cons_self ..)), fun _ h => h, fun _ h => h, fun h => h⟩
    · exact .inl ⟨y, List.mem_cons_of_mem _ (wrows_sub (fun x hx => List.mem_of_mem_tail hx) y hy), fun _ h => h, fun _ h => h, fun h => h⟩
theorem Rl.glen {l fl gl : List W} {came : Nat} (h : Rl l fl came) (hg : gl.map key = fl.map key) : gl.length ≤ 100000 := by
  have := congrArg List.length hg
  rw [List.length_map, List.length_map, h.flen] at this
  have := h.len
  omega
theorem Rl.nextk {l fl : List W} {came : Nat} (h : Rl l fl came) : (first l).id = (fl.getD 0 w0).id ∧ (first l).data = (fl.getD 0 w0).data ∧ Sha.Byt (first l).data := by
  have hk := h.next.1
  refine ⟨congrArg Prod.fst hk, congrArg Prod.snd hk, ?_⟩
  rcases Nat.eq_zero_or_pos l.length with h0 | h0
  · obtain rfl := List.length_eq_zero_iff.1 h0
    intro z hz; cases hz
  · exact (h.dat _ (first_mem h0)).1
end Go.Proofs.Ytfddplpljjlgiaa.Bs

namespace Go.Proofs.Ytfddplpljjlgiaa
open Go Go.RowKit Fw
open Bs
set_option linter.unusedVariables false
set_option linter.unusedSimpArgs false
set_option maxRecDepth 20000 in
set_option maxHeartbeats 1000000 in
theorem ris_any (id : Int) (dv : Value) (data : List Int) (w : World) (hl : data.length ≤ 140737488351232) (hd : Rd w dv 1 (ints .u8 data)) : Calls Try.prog 20 #[.agg (List.toArray [.int .i64 id, dv])] w (PostV w (.bool (decide (Bs.isF id data)))) := by
  have hsd := rd_shape hd
  refine calls_at (vs := [.agg (List.toArray [.int .i64 id, dv])]) (X := []) (H := []) (F := [(20, .sl (dv) 1 (ints .u8 (data)))]) 17 Try.func20 rfl rfl rfl (Sat.rd0 20 hd) ?_
  refine cd_seq ?_
  refine cd_region ?_
  refine st_box (h := 1) rfl rfl rfl rfl (fun b1 => ?_)
  refine st (ev_assign rfl) rfl rfl rfl ?_
  refine op_nil ?_
  refine ax_then ?_
  refine At.regs (L' := [(1, _), (2, _)]) (.cons rfl (.cons rfl (.nil _))) ?_
  refine cd_seq ?_
  refine cd_region ?_
  refine st (ev_fieldAddr (b := _) Try.underlying29 (f := _) rfl ty3 (by decide) rfl) rfl rfl rfl ?_
  refine st (ld_blk1 (h := 1) ty3 rfl rfl rfl rfl) rfl rfl rfl ?_
  refine st (ev_geq rfl rfl) rfl rfl rfl ?_
  refine st (ev_move rfl) rfl rfl rfl ?_
  refine at_split_if (i := 6) rfl (fun hg6 => ?_) (fun hg6 => ?_)
  ·
    refine st (ev_fieldAddr (b := _) Try.underlying29 (f := _) rfl ty3 (by decide) rfl) rfl rfl rfl ?_
    refine st (ld_blk1 (h := 1) ty3 rfl rfl rfl rfl) rfl rfl rfl ?_
    refine st (ev_leq rfl rfl) rfl rfl rfl ?_
    refine st (ev_pick_t rfl rfl) rfl rfl rfl ?_
    refine st (ev_move rfl) rfl rfl rfl ?_
    refine at_split_if (i := 11) rfl (fun hg11 => ?_) (fun hg11 => ?_)
    ·
      refine st (ev_fieldAddr (b := _) Try.underlying29 (f := _) rfl ty27 (by decide) rfl) rfl rfl rfl ?_
      refine st (ld_blk1 (h := 1) ty27 rfl rfl rfl rfl) rfl rfl rfl ?_
      refine st (ev_len_rdi (h := 20) Try.underlying27 rfl rfl) rfl rfl rfl ?_
      refine st (ev_leq rfl rfl) rfl rfl rfl ?_
      refine st (ev_pick_t rfl rfl) rfl rfl rfl ?_
      refine st (ev_assign rfl) rfl rfl rfl ?_
      refine op_nil ?_
      refine ax_then ?_
      refine At.regs (L' := [(2, _)]) (.cons rfl (.nil _)) ?_
      refine cd_ret ?_
      refine rt_tmp (.inl rfl) Try.results20 rfl ?_
      exact fun w1 sw => ⟨congrArg (fun b => Ending.returned (Value.bool b)) (by exact decide_eq_decide.2 ⟨fun h => ⟨by omega, by omega, by omega⟩, fun h => by have := h.2.2; omega⟩), sw.gives (.nil _)⟩
    ·
      refine st_skip rfl rfl rfl ?_
      refine st_skip rfl rfl rfl ?_
      refine st_skip rfl rfl rfl ?_
      refine st_skip rfl rfl rfl ?_
      refine st (ev_pick_f rfl rfl) rfl rfl rfl ?_
      refine st (ev_assign rfl) rfl rfl rfl ?_
      refine op_nil ?_
      refine ax_then ?_
      refine At.regs (L' := [(2, _)]) (.cons rfl (.nil _)) ?_
      refine cd_ret ?_
      refine rt_tmp (.inl rfl) Try.results20 rfl ?_
      exact fun w1 sw => ⟨congrArg (fun b => Ending.returned (Value.bool b)) (by exact (decide_eq_false (fun h => by obtain ⟨h1, h2, h3⟩ := h; omega)).symm), sw.gives (.nil _)⟩
  ·
    refine st_skip rfl rfl rfl ?_
    refine st_skip rfl rfl rfl ?_
    refine st_skip rfl rfl rfl ?_
    refine st (ev_pick_f rfl rfl) rfl rfl rfl ?_
    refine st (ev_move rfl) rfl rfl rfl ?_
    refine st_skip rfl rfl rfl ?_
    refine st_skip rfl rfl rfl ?_
    refine st_skip rfl rfl rfl ?_
    refine st_skip rfl rfl rfl ?_
    refine st (ev_pick_f rfl rfl) rfl rfl rfl ?_
    refine st (ev_assign rfl) rfl rfl rfl ?_
    refine op_nil ?_
    refine ax_then ?_
    refine At.regs (L' := [(2, _)]) (.cons rfl (.nil _)) ?_
    refine cd_ret ?_
    refine rt_tmp (.inl rfl) Try.results20 rfl ?_
    exact fun w1 sw => ⟨congrArg (fun b => Ending.returned (Value.bool b)) (by exact (decide_eq_false (fun h => by obtain ⟨h1, h2, h3⟩ := h; omega)).symm), sw.gives (.nil _)⟩
set_option maxRecDepth 20000 in
set_option maxHeartbeats 2000000 in
theorem rsame_any (u v : Value) (a b : List Bs.W) (w : World) (hal : a.length ≤ 100000) (hk : a.map Bs.key = b.map Bs.key) (hB : ∀ i, i < b.length → Sha.Byt (b.getD i Bs.w0).data) (ha : Rd w u 2 (Bs.fflat a)) (hb : Rd w v 2 (Bs.fflat b)) (ra : ∀ y, y ∈ Bs.wrows a → Rd w y.1 y.2.1 y.2.2) (rb : ∀ y, y ∈ Bs.wrows b → Rd w y.1 y.2.1 y.2.2) : Calls Try.prog 15 #[u, v] w (PostV w (.bool true)) := by
  have hlen : a.length = b.length := by have := congrArg List.length hk; rwa [List.length_map, List.length_map] at this
  refine calls_at (vs := [u, v]) (X := []) (H := []) (F := [(41, .rows (Bs.wrows b)), (40, .rows (Bs.wrows a)), (21, .sl (v) 2 (Bs.fflat (b))), (20, .sl (u) 2 (Bs.fflat (a)))]) 43 Try.func15 rfl rfl rfl ((((Sat.rd0 20 ha).more 21 hb).read (f := .rows (Bs.wrows a)) 40 ra off_nil).read (f := .rows (Bs.wrows b)) 41 rb off_nil) ?_
  refine cd_seq ?_
  refine cd_region ?_
  refine st (ev_assign rfl) rfl rfl rfl ?_
  refine op_nil ?_
  refine ax_then ?_
  refine At.regs (L' := [(0, _), (1, _), (4, _)]) (.cons rfl (.cons rfl (.cons rfl (.nil _)))) ?_
  refine cd_seq ?_
  refine cd_seq ?_
  refine cd_region ?_
  refine st (ev_move rfl) rfl rfl rfl ?_
  refine st (ev_len_rd (h := 20) (n := a.length) Try.underlying40 rfl rfl (Bs.fflat_len a) (by decide)) rfl rfl rfl ?_
  refine st (ev_move rfl) rfl rfl rfl ?_
  refine st (ev_len_rd (h := 21) (n := b.length) Try.underlying40 rfl rfl (Bs.fflat_len b) (by decide)) rfl rfl rfl ?_
  refine st (ev_neq rfl rfl) rfl rfl rfl ?_
  refine op_nil ?_
  refine ax_then ?_
  refine At.regs (L' := [(0, _), (1, _), (4, _), (10, _)]) (.cons rfl (.cons rfl (.cons rfl (.cons rfl (.nil _))))) ?_
  refine cd_if_f rfl (by omega) ?_
  refine cd_skip ?_
  refine ax_then ?_
  refine At.regs (L' := [(0, _), (1, _), (4, _)]) (.cons rfl (.cons rfl (.cons rfl (.nil _)))) ?_
  refine cd_seq ?_
  refine cd_seq ?_
  refine cd_region ?_
  refine st (ev_assign rfl) rfl rfl rfl ?_
  refine op_nil ?_
  refine ax_then ?_
  refine At.regs (L' := [(0, _), (1, _), (4, _), (5, _)]) (.cons rfl (.cons rfl (.cons rfl (.cons rfl (.nil _))))) ?_
  refine cd_block ?_
  refine cd_loop (ι := Nat) (fun i => i ≤ a.length) (fun i => a.length - i)
      (fun i => [(0, u), (1, v), (5, .int .i64 (i : Nat))])
      (fun i => [])
      (fun i => [(20, .sl (u) 2 (Bs.fflat (a))), (21, .sl (v) 2 (Bs.fflat (b))), (40, .rows (Bs.wrows a)), (41, .rows (Bs.wrows b))])
      0 (Nat.zero_le _) (.cons rfl (.cons rfl (.cons rfl (.nil _)))) (.nil _) (.cons rfl (.cons rfl (.cons rfl (.cons rfl (.nil _))))) (fun i hi => ?_)
  refine cd_seq ?_
  refine cd_seq ?_
  refine cd_region ?_
  refine st (ev_move rfl) rfl rfl rfl ?_
  refine st (ev_move rfl) rfl rfl rfl ?_
  refine st (ev_len_rd (h := 20) (n := a.length) Try.underlying40 rfl rfl (Bs.fflat_len a) (by decide)) rfl rfl rfl ?_
  refine st (ev_lss rfl rfl) rfl rfl rfl ?_
  refine op_nil ?_
  refine ax_then ?_
  refine At.regs (L' := [(0, _), (1, _), (5, _), (11, _), (12, _), (13, _), (14, _)]) (.cons rfl (.cons rfl (.cons rfl (.cons rfl (.cons rfl (.cons rfl (.cons rfl (.nil _)))))))) ?_
  refine cd_if rfl (fun hc14 => ?_) (fun hc14 => ?_)
  ·
    have hlt : i < a.length := by omega
    have hlt2 : i < b.length := by omega
    have hkk := Bs.key_getD hk i
    have hid : (a.getD i Bs.w0).id = (b.getD i Bs.w0).id := congrArg Prod.fst hkk
    have hdd : (a.getD i Bs.w0).data = (b.getD i Bs.w0).data := congrArg Prod.snd hkk
    have hBa : Sha.Byt (a.getD i Bs.w0).data := by rw [hdd]; exact hB _ hlt2
    refine cd_skip ?_
    refine ax_then ?_
    refine At.regs (L' := [(0, _), (1, _), (5, _), (11, _), (12, _), (13, _), (14, _)]) (.cons rfl (.cons rfl (.cons rfl (.cons rfl (.cons rfl (.cons rfl (.cons rfl (.nil _)))))))) ?_
    refine cd_seq ?_
    refine cd_block ?_
    refine cd_seq ?_
    refine cd_mix hmix ?_
    refine mx (i := 0) rfl (by decide +kernel) (by decide +kernel) (by decide +kernel) rfl (fun w0 => ev_move rfl) rfl rfl (Sub.refl _) ?_
    refine mx (i := 1) rfl (by decide +kernel) (by decide +kernel) (by decide +kernel) rfl (fun w0 => ev_move rfl) rfl rfl (Sub.refl _) ?_
    refine mx (i := 2) rfl (by decide +kernel) (by decide +kernel) (by decide +kernel) rfl (fun w0 => ev_indexAddr_rd (h := 20) (n := a.length) Try.underlying40 ty29 rfl rfl rfl (Bs.fflat_len a) (by decide) (by omega) (by omega)) rfl rfl (Sub.refl _) ?_
    refine mx (i := 3) rfl (by decide +kernel) (by decide +kernel) (by decide +kernel) rfl (fun w0 => ev_fieldIn (n := 0) (k := (i : Int).toNat * 2) Try.underlying29 rfl rfl rfl (fun w1 sw => sw.sl_rd (h := 20) rfl) (by rw [Bs.fflat_len]; omega) (fun b off hx => ev_fieldAddr (b := _) Try.underlying29 (f := _) rfl ty3 (by decide) hx)) rfl rfl (Sub.refl _) ?_
    refine mx (i := 4) rfl (by decide +kernel) (by decide +kernel) (by decide +kernel) rfl (fun w0 => ld_rd1 (h := 20) (k := (i : Int).toNat * 2 + 0) ty3 rfl rfl rfl (by rw [show ((i : Int)).toNat = i by omega]; exact (Bs.fflat_at hlt).1)) rfl rfl (Sub.refl _) ?_
    refine mx (i := 5) rfl (by decide +kernel) (by decide +kernel) (by decide +kernel) rfl (fun w0 => ev_move rfl) rfl rfl (Sub.refl _) ?_
    refine mx (i := 6) rfl (by decide +kernel) (by decide +kernel) (by decide +kernel) rfl (fun w0 => ev_move rfl) rfl rfl (Sub.refl _) ?_
    refine mx (i := 7) rfl (by decide +kernel) (by decide +kernel) (by decide +kernel) rfl (fun w0 => ev_indexAddr_rd (h := 21) (n := b.length) Try.underlying40 ty29 rfl rfl rfl (Bs.fflat_len b) (by decide) (by omega) (by omega)) rfl rfl (Sub.refl _) ?_
    refine mx (i := 8) rfl (by decide +kernel) (by decide +kernel) (by decide +kernel) rfl (fun w0 => ev_fieldIn (n := 0) (k := (i : Int).toNat * 2) Try.underlying29 rfl rfl rfl (fun w1 sw => sw.sl_rd (h := 21) rfl) (by rw [Bs.fflat_len]; omega) (fun b off hx => ev_fieldAddr (b := _) Try.underlying29 (f := _) rfl ty3 (by decide) hx)) rfl rfl (Sub.refl _) ?_
    refine mx (i := 9) rfl (by decide +kernel) (by decide +kernel) (by decide +kernel) rfl (fun w0 => ld_rd1 (h := 21) (k := (i : Int).toNat * 2 + 0) ty3 rfl rfl rfl (by rw [show ((i : Int)).toNat = i by omega]; exact (Bs.fflat_at hlt2).1)) rfl rfl (Sub.refl _) ?_
    refine mx (i := 10) rfl (by decide +kernel) (by decide +kernel) (by decide +kernel) rfl (fun w0 => ev_neq rfl rfl) rfl rfl (Sub.refl _) ?_
    refine mx (i := 11) rfl (by decide +kernel) (by decide +kernel) (by decide +kernel) rfl (fun w0 => ev_move rfl) rfl rfl (Sub.refl _) ?_
    refine at_eq (i := 28) (v' := .bool false) rfl (by simp only [Value.bool.injEq, decide_eq_true_eq, decide_eq_false_iff_not]; exact fun h => h hid) ?_
    refine mx (i := 12) rfl (by decide +kernel) (by decide +kernel) (by decide +kernel) rfl (fun w0 => ev_move rfl) rfl rfl (Sub.refl _) ?_
    refine mx (i := 13) rfl (by decide +kernel) (by decide +kernel) (by decide +kernel) rfl (fun w0 => ev_move rfl) rfl rfl (Sub.refl _) ?_
    refine mx (i := 14) rfl (by decide +kernel) (by decide +kernel) (by decide +kernel) rfl (fun w0 => ev_indexAddr_rd (h := 20) (n := a.length) Try.underlying40 ty29 rfl rfl rfl (Bs.fflat_len a) (by decide) (by omega) (by omega)) rfl rfl (Sub.refl _) ?_
    refine mx (i := 15) rfl (by decide +kernel) (by decide +kernel) (by decide +kernel) rfl (fun w0 => ev_fieldIn (n := 1) (k := (i : Int).toNat * 2) Try.underlying29 rfl rfl rfl (fun w1 sw => sw.sl_rd (h := 20) rfl) (by rw [Bs.fflat_len]; omega) (fun b off hx => ev_fieldAddr (b := _) Try.underlying29 (f := _) rfl ty27 (by decide) hx)) rfl rfl (Sub.refl _) ?_
    refine mx (i := 16) rfl (by decide +kernel) (by decide +kernel) (by decide +kernel) rfl (fun w0 => ld_rd1 (h := 20) (k := (i : Int).toNat * 2 + 1) ty27 rfl rfl rfl (by rw [show ((i : Int)).toNat = i by omega]; exact (Bs.fflat_at hlt).2)) rfl rfl (Sub.refl _) ?_
    refine mx (i := 17) rfl (by decide +kernel) (by decide +kernel) (by decide +kernel) rfl (fun w0 => ev_string Try.underlying27 Try.underlying5 Try.underlying9 rfl (fun w1 sw => sw.row (i := 40) rfl (Bs.wrows_mem (Bs.getD_mem (l := a) hlt)))) rfl rfl (Sub.refl _) ?_
    refine mx (i := 18) rfl (by decide +kernel) (by decide +kernel) (by decide +kernel) rfl (fun w0 => ev_move rfl) rfl rfl (Sub.refl _) ?_
    refine mx (i := 19) rfl (by decide +kernel) (by decide +kernel) (by decide +kernel) rfl (fun w0 => ev_move rfl) rfl rfl (Sub.refl _) ?_
    refine mx (i := 20) rfl (by decide +kernel) (by decide +kernel) (by decide +kernel) rfl (fun w0 => ev_indexAddr_rd (h := 21) (n := b.length) Try.underlying40 ty29 rfl rfl rfl (Bs.fflat_len b) (by decide) (by omega) (by omega)) rfl rfl (Sub.refl _) ?_
    refine mx (i := 21) rfl (by decide +kernel) (by decide +kernel) (by decide +kernel) rfl (fun w0 => ev_fieldIn (n := 1) (k := (i : Int).toNat * 2) Try.underlying29 rfl rfl rfl (fun w1 sw => sw.sl_rd (h := 21) rfl) (by rw [Bs.fflat_len]; omega) (fun b off hx => ev_fieldAddr (b := _) Try.underlying29 (f := _) rfl ty27 (by decide) hx)) rfl rfl (Sub.refl _) ?_
    refine mx (i := 22) rfl (by decide +kernel) (by decide +kernel) (by decide +kernel) rfl (fun w0 => ld_rd1 (h := 21) (k := (i : Int).toNat * 2 + 1) ty27 rfl rfl rfl (by rw [show ((i : Int)).toNat = i by omega]; exact (Bs.fflat_at hlt2).2)) rfl rfl (Sub.refl _) ?_
    refine mx (i := 23) rfl (by decide +kernel) (by decide +kernel) (by decide +kernel) rfl (fun w0 => ev_string Try.underlying27 Try.underlying5 Try.underlying9 rfl (fun w1 sw => sw.row (i := 41) rfl (Bs.wrows_mem (Bs.getD_mem (l := b) hlt2)))) rfl rfl (Sub.refl _) ?_
    refine mx (i := 24) rfl (by decide +kernel) (by decide +kernel) (by decide +kernel) rfl (fun w0 => ev_neq_strb rfl rfl hBa (hB _ hlt2)) rfl rfl (Sub.refl _) ?_
    refine mx (i := 25) rfl (by decide +kernel) (by decide +kernel) (by decide +kernel) rfl (fun w0 => ev_pick_f rfl rfl) rfl rfl (Sub.refl _) ?_
    refine mx_done (by decide +kernel) (Sub.refl _) ?_
    refine ax_then ?_
    refine At.regs (L' := [(0, _), (1, _), (5, _), (11, _), (12, _), (13, _), (14, _), (17, _), (18, _), (19, _), (20, _), (21, _), (22, _), (23, _), (24, _), (25, _), (26, _), (27, _), (28, _), (29, _), (30, _), (31, _), (32, _), (33, _), (34, _), (35, _), (36, _), (37, _), (38, _), (39, _), (40, _), (41, _), (42, _)]) (.cons rfl (.cons rfl (.cons rfl (.cons rfl (.cons rfl (.cons rfl (.cons rfl (.cons rfl (.cons rfl (.cons rfl (.cons rfl (.cons rfl (.cons rfl (.cons rfl (.cons rfl (.cons rfl (.cons rfl (.cons rfl (.cons rfl (.cons rfl (.cons rfl (.cons rfl (.cons rfl (.cons rfl (.cons rfl (.cons rfl (.cons rfl (.cons rfl (.cons rfl (.cons rfl (.cons rfl (.cons rfl (.cons rfl (.nil _)))))))))))))))))))))))))))))))))) ?_
    refine cd_if_f rfl (fun h => h hdd) ?_
    refine cd_skip ?_
    refine ax_block ?_
    refine ax_then ?_
    refine At.regs (L' := [(0, _), (1, _), (5, _), (11, _), (12, _), (13, _), (14, _), (17, _), (18, _), (19, _), (20, _), (21, _), (22, _), (23, _), (24, _), (25, _), (26, _), (27, _), (28, _), (29, _), (30, _), (31, _), (32, _), (33, _), (34, _), (35, _), (36, _), (37, _), (38, _), (39, _), (40, _), (41, _), (42, _)]) (.cons rfl (.cons rfl (.cons rfl (.cons rfl (.cons rfl (.cons rfl (.cons rfl (.cons rfl (.cons rfl (.cons rfl (.cons rfl (.cons rfl (.cons rfl (.cons rfl (.cons rfl (.cons rfl (.cons rfl (.cons rfl (.cons rfl (.cons rfl (.cons rfl (.cons rfl (.cons rfl (.cons rfl (.cons rfl (.cons rfl (.cons rfl (.cons rfl (.cons rfl (.cons rfl (.cons rfl (.cons rfl (.cons rfl (.nil _)))))))))))))))))))))))))))))))))) ?_
    refine cd_region ?_
    refine st (ev_move rfl) rfl rfl rfl ?_
    refine st (ev_add64 rfl rfl (by omega) (by omega)) rfl rfl rfl ?_
    refine st (ev_assign rfl) rfl rfl rfl ?_
    refine op_nil ?_
    exact at_again (i + 1) (by show i + 1 ≤ a.length; omega) (by show a.length - (i + 1) < a.length - i; omega) (.cons rfl (.cons rfl (.cons rfl (.nil _)))) (.nil _) (.cons rfl (.cons rfl (.cons rfl (.cons rfl (.nil _)))))
  ·
    refine cd_exit ?_
    refine ax_then_exit ?_
    refine ax_then_exit ?_
    refine ax_block_hit ?_
    refine ax_then ?_
    refine At.regs (L' := []) (.nil _) ?_
    refine cd_seq ?_
    refine cd_region ?_
    refine st (ev_assign rfl) rfl rfl rfl ?_
    refine op_nil ?_
    refine ax_then ?_
    refine At.regs (L' := [(4, _)]) (.cons rfl (.nil _)) ?_
    refine cd_ret ?_
    refine rt_tmp (.inl rfl) Try.results15 rfl ?_
    exact fun w1 sw => ⟨rfl, sw.gives (.nil _)⟩
theorem cut_one {sz lo hi : Nat} {v : Value} (h : v.oneCell' = true) : (cutAt sz v lo hi).oneCell' = true := by
  cases v <;> first | exact h | rfl
set_option maxRecDepth 20000 in
set_option maxHeartbeats 1000000 in
theorem rnext_emp (b : Nat) (fv : Value) (fl : List Bs.W) (w : World) (h0 : fl.length = 0) (hb : w.heap[b]? = some (.cells (List.toArray [fv]) 42)) (h : Rd w fv 2 (Bs.fflat fl)) (hof : FE.off b (.sl (fv) 2 (Bs.fflat (fl)))) : Calls Try.prog 14 #[.pointer (some ⟨b, 0, none⟩)] w (PostV w (.tuple #[.agg (List.toArray [.int .i64 0, .slice none 0 0]), .bool false])) := by
  refine calls_at (vs := [.pointer (some ⟨b, 0, none⟩)]) (X := []) (H := []) (F := [(21, .mem b 0 [fv]), (20, .sl (fv) 2 (Bs.fflat (fl)))]) 27 Try.func14 rfl rfl rfl ((Sat.rd0 20 h).read (f := .mem b 0 [fv]) 21 (lies_blk hb) off_nil) ?_
  refine cd_seq ?_
  refine cd_region ?_
  refine st_alloc (h := 2) ty29 rfl rfl rfl (fun b2 => ?_)
  refine st (ev_assign rfl) rfl rfl rfl ?_
  refine op_nil ?_
  refine ax_then ?_
  refine At.regs (L' := [(0, _), (2, _), (3, _)]) (.cons rfl (.cons rfl (.cons rfl (.nil _)))) ?_
  refine cd_seq ?_
  refine cd_seq ?_
  refine cd_region ?_
  refine st (ev_move rfl) rfl rfl rfl ?_
  refine st (ev_nilCheck rfl) rfl rfl rfl ?_
  refine st (ev_fieldAddr (b := _) Try.underlying42 (f := _) rfl ty40 (by decide) rfl) rfl rfl rfl ?_
  refine st (ld_mem1 (h := 21) ty40 rfl rfl rfl (Nat.zero_add _).symm rfl) rfl rfl rfl ?_
  refine st (ev_len_rd (h := 20) (n := fl.length) Try.underlying40 rfl rfl (Bs.fflat_len fl) (by decide)) rfl rfl rfl ?_
  refine st (ev_eql rfl rfl) rfl rfl rfl ?_
  refine op_nil ?_
  refine ax_then ?_
  refine At.regs (L' := [(0, _), (2, _), (3, _), (10, _)]) (.cons rfl (.cons rfl (.cons rfl (.cons rfl (.nil _))))) ?_
  refine cd_if_t rfl (by omega) ?_
  refine cd_seq ?_
  refine cd_region ?_
  refine st (ev_build_struct ty29 rfl pl29 rfl fill_nil) rfl rfl rfl ?_
  refine at_eq (i := 11) (v' := .agg (List.toArray [.int .i64 0, .slice none 0 0])) rfl rfl ?_
  refine st_store_all 2 ty29 rfl rfl rfl rfl rfl (by intro u0 hu0; simp only [List.mem_cons, List.not_mem_nil, or_false] at hu0; rcases hu0 with rfl | rfl <;> rfl) rfl rfl ?_
  refine st (ev_assign rfl) rfl rfl rfl ?_
  refine op_nil ?_
  refine ax_then ?_
  refine At.regs (L' := [(0, _), (2, _), (3, _)]) (.cons rfl (.cons rfl (.cons rfl (.nil _)))) ?_
  refine cd_ret ?_
  refine ax_then_ret ?_
  refine rt_cell_tmp (h0 := 2) (.inl rfl) Try.results14 ty29 rfl rfl rfl rfl rfl ?_
  exact fun w1 sw => ⟨rfl, sw.gives (.nil _)⟩
set_option maxRecDepth 20000 in
set_option maxHeartbeats 2000000 in
theorem rnext_ok (b : Nat) (fv : Value) (fl : List Bs.W) (w : World) (h0 : 0 < fl.length) (ho : ∀ x, x ∈ fl → x.dv.oneCell' = true) (hb : w.heap[b]? = some (.cells (List.toArray [fv]) 42)) (h : Rd w fv 2 (Bs.fflat fl)) (hof : FE.off b (.sl (fv) 2 (Bs.fflat (fl)))) : Calls Try.prog 14 #[.pointer (some ⟨b, 0, none⟩)] w (Post (ι := Unit) w [b] (fun _ => True) (fun _ => .tuple #[.agg (List.toArray [.int .i64 (fl.getD 0 Bs.w0).id, (fl.getD 0 Bs.w0).dv]), .bool true]) (fun _ => [(2, .blk (b) (.cells ([(cutAt 2 fv 1 fl.length)]).toArray 42))])) := by
  have hone := ho _ (Bs.getD_mem h0)
  have hsf := rd_shape h
  refine calls_at (vs := [.pointer (some ⟨b, 0, none⟩)]) (X := [b]) (H := [(50, .blk (b) (.cells ([fv]).toArray 42))]) (F := [(20, .sl (fv) 2 (Bs.fflat (fl)))]) 27 Try.func14 rfl rfl rfl ((Sat.blk0 w 50 b _ hb).read (f := .sl (fv) 2 (Bs.fflat (fl))) 20 h (off_one (fun b' hb' => by obtain rfl := mem_one hb'; exact hof))) ?_
  refine cd_seq ?_
  refine cd_region ?_
  refine st_alloc (h := 2) ty29 rfl rfl rfl (fun b2 => ?_)
  refine st (ev_assign rfl) rfl rfl rfl ?_
  refine op_nil ?_
  refine ax_then ?_
  refine At.regs (L' := [(0, _), (2, _), (3, _)]) (.cons rfl (.cons rfl (.cons rfl (.nil _)))) ?_
  refine cd_seq ?_
  refine cd_seq ?_
  refine cd_region ?_
  refine st (ev_move rfl) rfl rfl rfl ?_
  refine st (ev_nilCheck rfl) rfl rfl rfl ?_
  refine st (ev_fieldAddr (b := _) Try.underlying42 (f := _) rfl ty40 (by decide) rfl) rfl rfl rfl ?_
  refine st (ld_blk1 (h := 50) ty40 rfl rfl rfl rfl) rfl rfl rfl ?_
  refine st (ev_len_rd (h := 20) (n := fl.length) Try.underlying40 rfl rfl (Bs.fflat_len fl) (by decide)) rfl rfl rfl ?_
  refine st (ev_eql rfl rfl) rfl rfl rfl ?_
  refine op_nil ?_
  refine ax_then ?_
  refine At.regs (L' := [(0, _), (2, _), (3, _), (10, _)]) (.cons rfl (.cons rfl (.cons rfl (.cons rfl (.nil _))))) ?_
  refine cd_if_f rfl (by omega) ?_
  refine cd_skip ?_
  refine ax_then ?_
  refine At.regs (L' := [(0, _), (2, _), (3, _)]) (.cons rfl (.cons rfl (.cons rfl (.nil _)))) ?_
  refine cd_seq ?_
  refine cd_region ?_
  refine st (ev_move rfl) rfl rfl rfl ?_
  refine st (ev_nilCheck rfl) rfl rfl rfl ?_
  refine st (ev_fieldAddr (b := _) Try.underlying42 (f := _) rfl ty40 (by decide) rfl) rfl rfl rfl ?_
  refine st (ld_blk1 (h := 50) ty40 rfl rfl rfl rfl) rfl rfl rfl ?_
  refine st (ev_indexAddr_rd (h := 20) (n := fl.length) Try.underlying40 ty29 rfl rfl rfl (Bs.fflat_len fl) (by decide) (by decide) (by omega)) rfl rfl rfl ?_
  refine st (ld_rd (k := (0 : Int).toNat * 2) (h := 20) ty29 rfl rfl rfl (by decide) (by rw [Bs.fflat_len]; show 0 * 2 + 2 ≤ _; omega)) rfl rfl rfl ?_
  refine at_eq (i := 17) (v' := .agg (List.toArray [.int .i64 (fl.getD 0 Bs.w0).id, (fl.getD 0 Bs.w0).dv])) rfl (congrArg (fun x => Value.agg (List.toArray x)) (Bs.fflat_get h0)) ?_
  refine st_alloc (h := 4) ty29 rfl rfl rfl (fun b4 => ?_)
  refine st_store_all 4 ty29 rfl rfl rfl rfl rfl (by intro u0 hu0; simp only [List.mem_cons, List.not_mem_nil, or_false] at hu0; rcases hu0 with rfl | rfl; rfl; exact hone) rfl rfl ?_
  refine op_nil ?_
  refine ax_then ?_
  refine At.regs (L' := [(0, _), (2, _), (3, _), (4, _)]) (.cons rfl (.cons rfl (.cons rfl (.cons rfl (.nil _))))) ?_
  refine cd_seq ?_
  refine cd_region ?_
  refine st (ev_move rfl) rfl rfl rfl ?_
  refine st (ev_move rfl) rfl rfl rfl ?_
  refine st (ev_nilCheck rfl) rfl rfl rfl ?_
  refine st (ev_fieldAddr (b := _) Try.underlying42 (f := _) rfl ty40 (by decide) rfl) rfl rfl rfl ?_
  refine st (ld_blk1 (h := 50) ty40 rfl rfl rfl rfl) rfl rfl rfl ?_
  refine st (ev_slice_rd_lo (n := fl.length) Try.underlying40 ty29 rfl rfl (fun w1 sw => sw.sl_rd (h := 20) rfl) (by decide) (Bs.fflat_len fl) (by decide) (by omega)) rfl rfl rfl ?_
  refine at_eq (i := 23) (v' := (cutAt 2 fv 1 fl.length)) rfl rfl ?_
  refine st (ev_nilCheck rfl) rfl rfl rfl ?_
  refine st (ev_fieldAddr (b := _) Try.underlying42 (f := _) rfl ty40 (by decide) rfl) rfl rfl rfl ?_
  refine st_store1 50 ty40 rfl rfl rfl (show Value.oneCell' (cutAt 2 fv 1 fl.length) = true from cut_one hsf.2) (show 0 < 1 from by decide) rfl ?_
  refine at_heq (i := 50) (v' := .blk (b) (.cells ([(cutAt 2 fv 1 fl.length)]).toArray 42)) rfl rfl ?_
  refine op_nil ?_
  refine ax_then ?_
  refine At.regs (L' := [(2, _), (3, _), (4, _)]) (.cons rfl (.cons rfl (.cons rfl (.nil _)))) ?_
  refine cd_seq ?_
  refine cd_region ?_
  refine st (ld_blk_all (h := 4) ty29 rfl rfl rfl rfl) rfl rfl rfl ?_
  refine st_store_all 2 ty29 rfl rfl rfl rfl rfl (by intro u0 hu0; simp only [List.mem_cons, List.not_mem_nil, or_false] at hu0; rcases hu0 with rfl | rfl; rfl; exact hone) rfl rfl ?_
  refine st (ev_assign rfl) rfl rfl rfl ?_
  refine op_nil ?_
  refine ax_then ?_
  refine At.regs (L' := [(2, _), (3, _)]) (.cons rfl (.cons rfl (.nil _))) ?_
  refine cd_ret ?_
  refine rt_cell_tmp (h0 := 2) (.inl rfl) Try.results14 ty29 rfl rfl rfl rfl rfl ?_
  exact fun w1 sw => ⟨(), trivial, rfl, (sw.gives (N := [(50, _)]) (.cons rfl (.nil _))).rn 2⟩
end Go.Proofs.Ytfddplpljjlgiaa
