/- The statement's proof, part 2: what its walks and its plain laws need. -/
import Derived.Test.YtfddplpljjlgiaaRows
import Derived.Tactics
import Derived.Deep.Quiet
import Derived.StillTail
import Derived.Laws.World
import Derived.Laws.Sem
import Derived.Laws.Entries
import Derived.Below
import Derived.Deep.LoopGhost
import Derived.Laws.BytesString
import Derived.Laws.IdiomStrings
import Derived.KernelRfl
import Derived.Carry
import Derived.OpenShut
import Derived.ProofKit
import Derived.ChangeSame
import Derived.HandedShaped
import Derived.SizedLaws
import Derived.Test.YtfddplpljjlgiaaProg
import Derived.Shelf.SlSortCmp.InsertionK
import Derived.Shelf.SlSortFuncK.SWK
import Derived.Sort.AssemblyPlain
import Derived.Shelf.SlSortCmp.PdqK
import Derived.Laws.Strings
import Derived.Test.YtfddplpljjlgiaaXb1
namespace Go.Proofs.Ytfddplpljjlgiaa
open Go Go.RowKit Fw
open Bs
set_option linter.unusedVariables false
set_option linter.unusedSimpArgs false
theorem invLen {x  : Value} (w : World) : (invoke (.fn (.method "Len") #[]) (List.toArray [.iface 54 x])).run Try.prog w = .ok (.enter 63 (List.toArray [x])) w := by kernel_rfl
theorem invLess {x a0 a1 : Value} (w : World) : (invoke (.fn (.method "Less") #[]) (List.toArray [.iface 54 x, a0, a1])).run Try.prog w = .ok (.enter 64 (List.toArray [x, a0, a1])) w := by kernel_rfl
theorem invSwap {x a0 a1 : Value} (w : World) : (invoke (.fn (.method "Swap") #[]) (List.toArray [.iface 54 x, a0, a1])).run Try.prog w = .ok (.enter 67 (List.toArray [x, a0, a1])) w := by kernel_rfl
theorem invPush {x a0 : Value} (w : World) : (invoke (.fn (.method "Push") #[]) (List.toArray [.iface 54 x, a0])).run Try.prog w = .ok (.enter 66 (List.toArray [x, a0])) w := by kernel_rfl
theorem invPop {x  : Value} (w : World) : (invoke (.fn (.method "Pop") #[]) (List.toArray [.iface 54 x])).run Try.prog w = .ok (.enter 65 (List.toArray [x])) w := by kernel_rfl
set_option maxRecDepth 20000 in
set_option maxHeartbeats 1000000 in
theorem up_any (b : Nat) (qv c : Value) (l : List Bs.W) (j : Nat) (w : World) (hj : j < l.length) (hll : l.length ≤ 1000000) (ho : ∀ x, x ∈ l → x.dv.oneCell' = true) (hb : w.heap[b]? = some (.cells (List.toArray [qv, c]) 52)) (hv : Own w qv 57 3 (Bs.wflat l)) (hbv : b ∉ blkOf qv) : Calls Try.prog 25 #[.iface 54 (.pointer (some ⟨b, 0, none⟩)), .int .i64 (j : Nat)] w (Post (ι := Unit) w (b :: blkOf qv) (fun _ => True) (fun _ => .tuple #[]) (fun _ => [(0, .blk (b) (.cells ([qv, c]).toArray 52)), (1, .own (qv) 57 3 (Bs.wflat (Bs.upS l j)))])) := by
  refine calls_at (vs := [.iface 54 (.pointer (some ⟨b, 0, none⟩)), .int .i64 (j : Nat)]) (X := b :: blkOf qv) (H := [(0, .blk (b) (.cells ([qv, c]).toArray 52)), (1, .own (qv) 57 3 (Bs.wflat (l)))]) (F := []) 23 Try.func25 rfl rfl rfl (Sat.two 0 1 (by decide) hb hv hbv) ?_
  refine cd_block ?_
  refine cd_loop (ι := Nat × List Bs.W) (fun x => x.1 < x.2.length ∧ x.2.length = l.length ∧ (∀ y, y ∈ x.2 → y.dv.oneCell' = true) ∧ Bs.upS x.2 x.1 = Bs.upS l j) (fun x => x.1)
      (fun x => [(0, .iface 54 (.pointer (some ⟨b, 0, none⟩))), (1, .int .i64 (x.1 : Nat))])
      (fun x => [(0, .blk (b) (.cells ([qv, c]).toArray 52)), (1, .own (qv) 57 3 (Bs.wflat (x.2)))])
      (fun x => [])
      (j, l) (⟨hj, rfl, ho, rfl⟩) (.cons rfl (.cons rfl (.nil _))) (.cons rfl (.cons rfl (.nil _))) (.nil _) (fun x hi => ?_)
  obtain ⟨i, m⟩ := x
  dsimp only at hi ⊢
  have hi1 := hi.1
  have hi2 := hi.2.1
  refine cd_block ?_
  refine cd_seq ?_
  refine cd_region ?_
  refine st (ev_move rfl) rfl rfl rfl ?_
  refine st (ev_sub64 rfl rfl (by omega) (by omega)) rfl rfl rfl ?_
  refine st (ev_quo rfl rfl (by decide)) rfl rfl rfl ?_
  refine at_eq (i := 7) (v' := .int .i64 (((i - 1) / 2 : Nat) : Int)) rfl (congrArg (Value.int .i64) (Bs.par i (by omega))) ?_
  refine st (ev_assign rfl) rfl rfl rfl ?_
  refine op_nil ?_
  refine ax_then ?_
  refine At.regs (L' := [(0, _), (1, _), (4, _), (5, _), (6, _), (7, _)]) (.cons rfl (.cons rfl (.cons rfl (.cons rfl (.cons rfl (.cons rfl (.nil _))))))) ?_
  refine cd_seq ?_
  refine cd_seq ?_
  refine cd_region ?_
  refine st (ev_move rfl) rfl rfl rfl ?_
  refine st (ev_move rfl) rfl rfl rfl ?_
  refine st (ev_eql rfl rfl) rfl rfl rfl ?_
  refine st (ev_move rfl) rfl rfl rfl ?_
  refine at_split_if (i := 11) rfl (fun hg11 => ?_) (fun hg11 => ?_)
  ·
    refine st_skip rfl rfl rfl ?_
    refine st_skip rfl rfl rfl ?_
    refine st_skip rfl rfl rfl ?_
    refine st_skip rfl rfl rfl ?_
    refine st_skip rfl rfl rfl ?_
    refine st (ev_pick_t rfl rfl) rfl rfl rfl ?_
    refine op_nil ?_
    refine ax_then ?_
    refine At.regs (L' := [(0, _), (1, _), (4, _), (5, _), (6, _), (7, _), (8, _), (9, _), (10, _), (11, _), (12, _), (13, _), (14, _), (15, _), (16, _), (17, _)]) (.cons rfl (.cons rfl (.cons rfl (.cons rfl (.cons rfl (.cons rfl (.cons rfl (.cons rfl (.cons rfl (.cons rfl (.cons rfl (.cons rfl (.cons rfl (.cons rfl (.cons rfl (.cons rfl (.nil _))))))))))))))))) ?_
    refine cd_true rfl ?_
    refine cd_exit ?_
    refine ax_then_exit ?_
    refine ax_block_miss (by decide) ?_
    refine ax_then_exit ?_
    refine ax_block_hit ?_
    refine rt_none (.inr rfl) Try.results25 ?_
    exact fun w1 sw => ⟨(), trivial, rfl, by rw [show Bs.upS l j = m from hi.2.2.2.symm.trans (Bs.upS_stop (.inl (by omega)))]; exact sw.gives (N := [(0, _), (1, _)]) (.cons rfl (.cons rfl (.nil _)))⟩
  ·
    refine st (ev_move rfl) rfl rfl rfl ?_
    refine st (ev_move rfl) rfl rfl rfl ?_
    refine st (ev_move rfl) rfl rfl rfl ?_
    refine st_invv invLess rfl rfl (fun w1 sw => qless_any b qv c m i ((i - 1) / 2) w1 hi1 (by omega) hi.2.2.1 (lies_blk (sw.blk_eq (h := 0) rfl)) (sw.own_rd (h := 1) rfl)) rfl rfl ?_
    refine st (ev_not_if rfl) rfl rfl rfl ?_
    refine st (ev_pick_f rfl rfl) rfl rfl rfl ?_
    refine op_nil ?_
    refine ax_then ?_
    refine At.regs (L' := [(0, _), (1, _), (4, _), (5, _), (6, _), (7, _), (8, _), (9, _), (10, _), (11, _), (12, _), (13, _), (14, _), (15, _), (16, _), (17, _)]) (.cons rfl (.cons rfl (.cons rfl (.cons rfl (.cons rfl (.cons rfl (.cons rfl (.cons rfl (.cons rfl (.cons rfl (.cons rfl (.cons rfl (.cons rfl (.cons rfl (.cons rfl (.cons rfl (.nil _))))))))))))))))) ?_
    refine cd_if rfl (fun hc17 => ?_) (fun hc17 => ?_)
    ·
      refine cd_exit ?_
      refine ax_then_exit ?_
      refine ax_block_miss (by decide) ?_
      refine ax_then_exit ?_
      refine ax_block_hit ?_
      refine rt_none (.inr rfl) Try.results25 ?_
      exact fun w1 sw => ⟨(), trivial, rfl, by rw [show Bs.upS l j = m from hi.2.2.2.symm.trans (Bs.upS_stop (.inr hc17))]; exact sw.gives (N := [(0, _), (1, _)]) (.cons rfl (.cons rfl (.nil _)))⟩
    ·
      have hne : i ≠ 0 := by omega
      have hlss := Classical.not_not.1 hc17
      refine cd_skip ?_
      refine ax_then ?_
      refine At.regs (L' := [(0, _), (1, _), (4, _), (5, _), (6, _), (7, _), (8, _), (9, _), (10, _), (11, _), (12, _), (13, _), (14, _), (15, _), (16, _), (17, _)]) (.cons rfl (.cons rfl (.cons rfl (.cons rfl (.cons rfl (.cons rfl (.cons rfl (.cons rfl (.cons rfl (.cons rfl (.cons rfl (.cons rfl (.cons rfl (.cons rfl (.cons rfl (.cons rfl (.nil _))))))))))))))))) ?_
      refine cd_seq ?_
      refine cd_region ?_
      refine st (ev_move rfl) rfl rfl rfl ?_
      refine st (ev_move rfl) rfl rfl rfl ?_
      refine st (ev_move rfl) rfl rfl rfl ?_
      refine st_inv invSwap rfl rfl (fun w1 sw => qswap_any b qv c m ((i - 1) / 2) i w1 (by omega) hi1 hi.2.2.1 (sw.blk_eq (h := 0) rfl) (sw.hold 1 _ rfl) (sw.apart 0 _ 1 _ rfl rfl (by decide) _ (by simp [Ent.ids]))) (mod_two rfl rfl) rfl rfl (fun _ _ => ?_)
      refine op_nil ?_
      refine ax_then ?_
      refine At.regs (L' := [(0, _), (1, _), (4, _), (5, _), (6, _), (7, _), (8, _), (9, _), (10, _), (11, _), (12, _), (13, _), (14, _), (15, _), (16, _), (17, _), (18, _), (19, _), (20, _)]) (.cons rfl (.cons rfl (.cons rfl (.cons rfl (.cons rfl (.cons rfl (.cons rfl (.cons rfl (.cons rfl (.cons rfl (.cons rfl (.cons rfl (.cons rfl (.cons rfl (.cons rfl (.cons rfl (.cons rfl (.cons rfl (.cons rfl (.nil _)))))))))))))))))))) ?_
      refine cd_region ?_
      refine st (ev_move rfl) rfl rfl rfl ?_
      refine st (ev_assign rfl) rfl rfl rfl ?_
      refine op_nil ?_
      refine ax_block ?_
      exact at_again (((i - 1) / 2, Bs.swapS m ((i - 1) / 2) i)) (⟨by rw [Bs.swapS_len]; show (i - 1) / 2 < m.length; omega, by show (Bs.swapS m _ _).length = _; rw [Bs.swapS_len]; exact hi.2.1, Bs.swapS_one hi.2.2.1 (by omega) (by omega), by rw [← hi.2.2.2]; exact (Bs.upS_step hne hlss).symm⟩) (by show (i - 1) / 2 < i; omega) (.cons rfl (.cons rfl (.nil _))) (.cons rfl (.cons rfl (.nil _))) (.nil _)
set_option maxRecDepth 20000 in
set_option maxHeartbeats 2000000 in
theorem down_any (b : Nat) (qv c : Value) (l : List Bs.W) (i0 n : Nat) (w : World) (hi0 : i0 ≤ 1000000) (hn : n ≤ l.length) (hll : l.length ≤ 1000000) (ho : ∀ x, x ∈ l → x.dv.oneCell' = true) (hb : w.heap[b]? = some (.cells (List.toArray [qv, c]) 52)) (hv : Own w qv 57 3 (Bs.wflat l)) (hbv : b ∉ blkOf qv) : Calls Try.prog 27 #[.iface 54 (.pointer (some ⟨b, 0, none⟩)), .int .i64 (i0 : Nat), .int .i64 (n : Nat)] w (Post (ι := Bool) w (b :: blkOf qv) (fun _ => True) (fun x => .bool x) (fun _ => [(0, .blk (b) (.cells ([qv, c]).toArray 52)), (1, .own (qv) 57 3 (Bs.wflat (Bs.downS l i0 n)))])) := by
  refine calls_at (vs := [.iface 54 (.pointer (some ⟨b, 0, none⟩)), .int .i64 (i0 : Nat), .int .i64 (n : Nat)]) (X := b :: blkOf qv) (H := [(0, .blk (b) (.cells ([qv, c]).toArray 52)), (1, .own (qv) 57 3 (Bs.wflat (l)))]) (F := []) 48 Try.func27 rfl rfl rfl (Sat.two 0 1 (by decide) hb hv hbv) ?_
  refine cd_seq ?_
  refine cd_region ?_
  refine st (ev_assign rfl) rfl rfl rfl ?_
  refine op_nil ?_
  refine ax_then ?_
  refine At.regs (L' := [(0, _), (1, _), (2, _), (6, _)]) (.cons rfl (.cons rfl (.cons rfl (.cons rfl (.nil _))))) ?_
  refine cd_seq ?_
  refine cd_region ?_
  refine st (ev_move rfl) rfl rfl rfl ?_
  refine st (ev_assign rfl) rfl rfl rfl ?_
  refine op_nil ?_
  refine ax_then ?_
  refine At.regs (L' := [(0, _), (1, _), (2, _), (6, _), (7, _)]) (.cons rfl (.cons rfl (.cons rfl (.cons rfl (.cons rfl (.nil _)))))) ?_
  refine cd_seq ?_
  refine cd_block ?_
  refine cd_loop (ι := Nat × List Bs.W) (fun x => x.1 ≤ 1000000 ∧ x.2.length = l.length ∧ (∀ y, y ∈ x.2 → y.dv.oneCell' = true) ∧ Bs.downS x.2 x.1 n = Bs.downS l i0 n) (fun x => n - x.1)
      (fun x => [(0, .iface 54 (.pointer (some ⟨b, 0, none⟩))), (1, .int .i64 (i0 : Nat)), (2, .int .i64 (n : Nat)), (7, .int .i64 (x.1 : Nat))])
      (fun x => [(0, .blk (b) (.cells ([qv, c]).toArray 52)), (1, .own (qv) 57 3 (Bs.wflat (x.2)))])
      (fun x => [])
      (i0, l) (⟨hi0, rfl, ho, rfl⟩) (.cons rfl (.cons rfl (.cons rfl (.cons rfl (.nil _))))) (.cons rfl (.cons rfl (.nil _))) (.nil _) (fun x hi => ?_)
  obtain ⟨i, m⟩ := x
  dsimp only at hi ⊢
  have hi1 := hi.1
  have hi2 := hi.2.1
  refine cd_block ?_
  refine cd_seq ?_
  refine cd_region ?_
  refine st (ev_move rfl) rfl rfl rfl ?_
  refine st (ev_mul64 rfl rfl (by omega) (by omega)) rfl rfl rfl ?_
  refine st (ev_add64 rfl rfl (by omega) (by omega)) rfl rfl rfl ?_
  refine st (ev_assign rfl) rfl rfl rfl ?_
  refine op_nil ?_
  refine ax_then ?_
  refine At.regs (L' := [(0, _), (1, _), (2, _), (7, _), (8, _), (12, _), (13, _), (14, _)]) (.cons rfl (.cons rfl (.cons rfl (.cons rfl (.cons rfl (.cons rfl (.cons rfl (.cons rfl (.nil _))))))))) ?_
  refine cd_seq ?_
  refine cd_seq ?_
  refine cd_region ?_
  refine st (ev_move rfl) rfl rfl rfl ?_
  refine st (ev_move rfl) rfl rfl rfl ?_
  refine st (ev_geq rfl rfl) rfl rfl rfl ?_
  refine st (ev_move rfl) rfl rfl rfl ?_
  refine at_split_if (i := 18) rfl (fun hg18 => ?_) (fun hg18 => ?_)
  ·
    refine st_skip rfl rfl rfl ?_
    refine st_skip rfl rfl rfl ?_
    refine st (ev_pick_t rfl rfl) rfl rfl rfl ?_
    refine op_nil ?_
    refine ax_then ?_
    refine At.regs (L' := [(0, _), (1, _), (2, _), (7, _), (8, _), (12, _), (13, _), (14, _), (15, _), (16, _), (17, _), (18, _), (19, _), (20, _), (21, _)]) (.cons rfl (.cons rfl (.cons rfl (.cons rfl (.cons rfl (.cons rfl (.cons rfl (.cons rfl (.cons rfl (.cons rfl (.cons rfl (.cons rfl (.cons rfl (.cons rfl (.cons rfl (.nil _)))))))))))))))) ?_
    refine cd_true rfl ?_
    refine cd_exit ?_
    refine ax_then_exit ?_
    refine ax_block_miss (by decide) ?_
    refine ax_then_exit ?_
    refine ax_block_hit ?_
    refine ax_then ?_
    refine At.regs (L' := [(1, _), (7, _)]) (.cons rfl (.cons rfl (.nil _))) ?_
    refine cd_seq ?_
    refine cd_region ?_
    refine st (ev_move rfl) rfl rfl rfl ?_
    refine st (ev_move rfl) rfl rfl rfl ?_
    refine st (ev_gtr rfl rfl) rfl rfl rfl ?_
    refine st (ev_assign rfl) rfl rfl rfl ?_
    refine op_nil ?_
    refine ax_then ?_
    refine At.regs (L' := [(6, _)]) (.cons rfl (.nil _)) ?_
    refine cd_ret ?_
    refine rt_tmp (.inl rfl) Try.results27 rfl ?_
    exact fun w1 sw => ⟨_, trivial, rfl, by rw [show Bs.downS l i0 n = m from hi.2.2.2.symm.trans (Bs.downS_stop (by first | exact .inl (by omega) | exact .inr (by rw [← hj]; exact hc39)))]; exact sw.gives (N := [(0, _), (1, _)]) (.cons rfl (.cons rfl (.nil _)))⟩
  ·
    have hlt : 2 * i + 1 < n := by omega
    refine st (ev_move rfl) rfl rfl rfl ?_
    refine st (ev_lss rfl rfl) rfl rfl rfl ?_
    refine st (ev_pick_f rfl rfl) rfl rfl rfl ?_
    refine op_nil ?_
    refine ax_then ?_
    refine At.regs (L' := [(0, _), (1, _), (2, _), (7, _), (8, _), (12, _), (13, _), (14, _), (15, _), (16, _), (17, _), (18, _), (19, _), (20, _), (21, _)]) (.cons rfl (.cons rfl (.cons rfl (.cons rfl (.cons rfl (.cons rfl (.cons rfl (.cons rfl (.cons rfl (.cons rfl (.cons rfl (.cons rfl (.cons rfl (.cons rfl (.cons rfl (.nil _)))))))))))))))) ?_
    refine cd_if_f rfl (by omega) ?_
    refine cd_skip ?_
    refine ax_then ?_
    refine At.regs (L' := [(0, _), (1, _), (2, _), (7, _), (8, _), (12, _), (13, _), (14, _), (15, _), (16, _), (17, _), (18, _), (19, _), (20, _), (21, _)]) (.cons rfl (.cons rfl (.cons rfl (.cons rfl (.cons rfl (.cons rfl (.cons rfl (.cons rfl (.cons rfl (.cons rfl (.cons rfl (.cons rfl (.cons rfl (.cons rfl (.cons rfl (.nil _)))))))))))))))) ?_
    refine cd_seq ?_
    refine cd_region ?_
    refine st (ev_move rfl) rfl rfl rfl ?_
    refine st (ev_assign rfl) rfl rfl rfl ?_
    refine op_nil ?_
    refine ax_then ?_
    refine At.regs (L' := [(0, _), (1, _), (2, _), (7, _), (8, _), (9, _), (12, _), (13, _), (14, _), (15, _), (16, _), (17, _), (18, _), (19, _), (20, _), (21, _), (22, _)]) (.cons rfl (.cons rfl (.cons rfl (.cons rfl (.cons rfl (.cons rfl (.cons rfl (.cons rfl (.cons rfl (.cons rfl (.cons rfl (.cons rfl (.cons rfl (.cons rfl (.cons rfl (.cons rfl (.cons rfl (.nil _)))))))))))))))))) ?_
    refine cd_join (ι := Nat) (fun k => k = Bs.child m i n) (fun k => [(0, .iface 54 (.pointer (some ⟨b, 0, none⟩))), (1, .int .i64 (i0 : Nat)), (2, .int .i64 (n : Nat)), (7, .int .i64 (i : Nat)), (9, .int .i64 (k : Nat))]) (fun k => [(0, .blk (b) (.cells ([qv, c]).toArray 52)), (1, .own (qv) 57 3 (Bs.wflat (m)))]) (fun k => []) ?_ (fun k hj => ?_)
    ·
      refine cd_seq ?_
      refine cd_region ?_
      refine st (ev_move rfl) rfl rfl rfl ?_
      refine st (ev_add64 rfl rfl (by omega) (by omega)) rfl rfl rfl ?_
      refine st (ev_assign rfl) rfl rfl rfl ?_
      refine op_nil ?_
      refine ax_then ?_
      refine At.regs (L' := [(0, _), (1, _), (2, _), (7, _), (8, _), (9, _), (10, _), (12, _), (13, _), (14, _), (15, _), (16, _), (17, _), (18, _), (19, _), (20, _), (21, _), (22, _), (23, _), (24, _)]) (.cons rfl (.cons rfl (.cons rfl (.cons rfl (.cons rfl (.cons rfl (.cons rfl (.cons rfl (.cons rfl (.cons rfl (.cons rfl (.cons rfl (.cons rfl (.cons rfl (.cons rfl (.cons rfl (.cons rfl (.cons rfl (.cons rfl (.cons rfl (.nil _))))))))))))))))))))) ?_
      refine cd_seq ?_
      refine cd_region ?_
      refine st (ev_move rfl) rfl rfl rfl ?_
      refine st (ev_move rfl) rfl rfl rfl ?_
      refine st (ev_lss rfl rfl) rfl rfl rfl ?_
      refine st (ev_move rfl) rfl rfl rfl ?_
      refine at_split_if (i := 28) rfl (fun hg28 => ?_) (fun hg28 => ?_)
      ·
        refine st (ev_move rfl) rfl rfl rfl ?_
        refine st (ev_move rfl) rfl rfl rfl ?_
        refine st (ev_move rfl) rfl rfl rfl ?_
        refine st_invv invLess rfl rfl (fun w1 sw => qless_any b qv c m (2 * i + 1 + 1) (2 * i + 1) w1 (by omega) (by omega) hi.2.2.1 (lies_blk (sw.blk_eq (h := 0) rfl)) (sw.own_rd (h := 1) rfl)) rfl rfl ?_
        refine st (ev_pick_t rfl rfl) rfl rfl rfl ?_
        refine op_nil ?_
        refine ax_then ?_
        refine At.regs (L' := [(0, _), (1, _), (2, _), (7, _), (8, _), (9, _), (10, _), (12, _), (13, _), (14, _), (15, _), (16, _), (17, _), (18, _), (19, _), (20, _), (21, _), (22, _), (23, _), (24, _), (25, _), (26, _), (27, _), (28, _), (29, _), (30, _), (31, _), (32, _), (33, _)]) (.cons rfl (.cons rfl (.cons rfl (.cons rfl (.cons rfl (.cons rfl (.cons rfl (.cons rfl (.cons rfl (.cons rfl (.cons rfl (.cons rfl (.cons rfl (.cons rfl (.cons rfl (.cons rfl (.cons rfl (.cons rfl (.cons rfl (.cons rfl (.cons rfl (.cons rfl (.cons rfl (.cons rfl (.cons rfl (.cons rfl (.cons rfl (.cons rfl (.cons rfl (.nil _)))))))))))))))))))))))))))))) ?_
        refine cd_if rfl (fun hc33 => ?_) (fun hc33 => ?_)
        ·
          refine cd_region ?_
          refine st (ev_move rfl) rfl rfl rfl ?_
          refine st (ev_assign rfl) rfl rfl rfl ?_
          refine op_nil ?_
          first | exact at_met (2 * i + 1 + 1) (by rw [Bs.child, if_pos ⟨by omega, hc33⟩]) (.cons rfl (.cons rfl (.cons rfl (.cons rfl (.cons rfl (.nil _)))))) (.cons rfl (.cons rfl (.nil _))) (.nil _) | exact at_met (2 * i + 1) (by rw [Bs.child, if_neg (fun hh => hc33 hh.2)]) (.cons rfl (.cons rfl (.cons rfl (.cons rfl (.cons rfl (.nil _)))))) (.cons rfl (.cons rfl (.nil _))) (.nil _) | exact at_met (2 * i + 1) (by rw [Bs.child, if_neg (fun hh => by omega)]) (.cons rfl (.cons rfl (.cons rfl (.cons rfl (.cons rfl (.nil _)))))) (.cons rfl (.cons rfl (.nil _))) (.nil _)
        ·
          refine cd_skip ?_
          first | exact at_met (2 * i + 1 + 1) (by rw [Bs.child, if_pos ⟨by omega, hc33⟩]) (.cons rfl (.cons rfl (.cons rfl (.cons rfl (.cons rfl (.nil _)))))) (.cons rfl (.cons rfl (.nil _))) (.nil _) | exact at_met (2 * i + 1) (by rw [Bs.child, if_neg (fun hh => hc33 hh.2)]) (.cons rfl (.cons rfl (.cons rfl (.cons rfl (.cons rfl (.nil _)))))) (.cons rfl (.cons rfl (.nil _))) (.nil _) | exact at_met (2 * i + 1) (by rw [Bs.child, if_neg (fun hh => by omega)]) (.cons rfl (.cons rfl (.cons rfl (.cons rfl (.cons rfl (.nil _)))))) (.cons rfl (.cons rfl (.nil _))) (.nil _)
      ·
        refine st_skip rfl rfl rfl ?_
        refine st_skip rfl rfl rfl ?_
        refine st_skip rfl rfl rfl ?_
        refine st_skip rfl rfl rfl ?_
        refine st (ev_pick_f rfl rfl) rfl rfl rfl ?_
        refine op_nil ?_
        refine ax_then ?_
        refine At.regs (L' := [(0, _), (1, _), (2, _), (7, _), (8, _), (9, _), (10, _), (12, _), (13, _), (14, _), (15, _), (16, _), (17, _), (18, _), (19, _), (20, _), (21, _), (22, _), (23, _), (24, _), (25, _), (26, _), (27, _), (28, _), (29, _), (30, _), (31, _), (32, _), (33, _)]) (.cons rfl (.cons rfl (.cons rfl (.cons rfl (.cons rfl (.cons rfl (.cons rfl (.cons rfl (.cons rfl (.cons rfl (.cons rfl (.cons rfl (.cons rfl (.cons rfl (.cons rfl (.cons rfl (.cons rfl (.cons rfl (.cons rfl (.cons rfl (.cons rfl (.cons rfl (.cons rfl (.cons rfl (.cons rfl (.cons rfl (.cons rfl (.cons rfl (.cons rfl (.nil _)))))))))))))))))))))))))))))) ?_
        refine cd_false rfl ?_
        refine cd_skip ?_
        first | exact at_met (2 * i + 1 + 1) (by rw [Bs.child, if_pos ⟨by omega, hc33⟩]) (.cons rfl (.cons rfl (.cons rfl (.cons rfl (.cons rfl (.nil _)))))) (.cons rfl (.cons rfl (.nil _))) (.nil _) | exact at_met (2 * i + 1) (by rw [Bs.child, if_neg (fun hh => hc33 hh.2)]) (.cons rfl (.cons rfl (.cons rfl (.cons rfl (.cons rfl (.nil _)))))) (.cons rfl (.cons rfl (.nil _))) (.nil _) | exact at_met (2 * i + 1) (by rw [Bs.child, if_neg (fun hh => by omega)]) (.cons rfl (.cons rfl (.cons rfl (.cons rfl (.cons rfl (.nil _)))))) (.cons rfl (.cons rfl (.nil _))) (.nil _)
    ·
      have hkg := Bs.child_gt m i n
      have hkl := Bs.child_lt (l := m) hlt
      rw [← hj] at hkg hkl
      refine cd_seq ?_
      refine cd_seq ?_
      refine cd_region ?_
      refine st (ev_move rfl) rfl rfl rfl ?_
      refine st (ev_move rfl) rfl rfl rfl ?_
      refine st (ev_move rfl) rfl rfl rfl ?_
      refine st_invv invLess rfl rfl (fun w1 sw => qless_any b qv c m k i w1 (by omega) (by omega) hi.2.2.1 (lies_blk (sw.blk_eq (h := 0) rfl)) (sw.own_rd (h := 1) rfl)) rfl rfl ?_
      refine st (ev_not_if rfl) rfl rfl rfl ?_
      refine op_nil ?_
      refine ax_then ?_
      refine At.regs (L' := [(0, _), (1, _), (2, _), (7, _), (9, _), (35, _), (36, _), (37, _), (38, _), (39, _)]) (.cons rfl (.cons rfl (.cons rfl (.cons rfl (.cons rfl (.cons rfl (.cons rfl (.cons rfl (.cons rfl (.cons rfl (.nil _))))))))))) ?_
      refine cd_if rfl (fun hc39 => ?_) (fun hc39 => ?_)
      ·
        refine cd_exit ?_
        refine ax_then_exit ?_
        refine ax_block_miss (by decide) ?_
        refine ax_then_exit ?_
        refine ax_block_hit ?_
        refine ax_then ?_
        refine At.regs (L' := [(1, _), (7, _)]) (.cons rfl (.cons rfl (.nil _))) ?_
        refine cd_seq ?_
        refine cd_region ?_
        refine st (ev_move rfl) rfl rfl rfl ?_
        refine st (ev_move rfl) rfl rfl rfl ?_
        refine st (ev_gtr rfl rfl) rfl rfl rfl ?_
        refine st (ev_assign rfl) rfl rfl rfl ?_
        refine op_nil ?_
        refine ax_then ?_
        refine At.regs (L' := [(6, _)]) (.cons rfl (.nil _)) ?_
        refine cd_ret ?_
        refine rt_tmp (.inl rfl) Try.results27 rfl ?_
        exact fun w1 sw => ⟨_, trivial, rfl, by rw [show Bs.downS l i0 n = m from hi.2.2.2.symm.trans (Bs.downS_stop (by first | exact .inl (by omega) | exact .inr (by rw [← hj]; exact hc39)))]; exact sw.gives (N := [(0, _), (1, _)]) (.cons rfl (.cons rfl (.nil _)))⟩
      ·
        have hlss := Classical.not_not.1 hc39
        have hstep : Bs.downS m i n = Bs.downS (Bs.swapS m i k) k n := by rw [hj]; exact Bs.downS_step hlt (by rw [← hj]; exact hlss)
        refine cd_skip ?_
        refine ax_then ?_
        refine At.regs (L' := [(0, _), (1, _), (2, _), (7, _), (9, _), (35, _), (36, _), (37, _), (38, _), (39, _)]) (.cons rfl (.cons rfl (.cons rfl (.cons rfl (.cons rfl (.cons rfl (.cons rfl (.cons rfl (.cons rfl (.cons rfl (.nil _))))))))))) ?_
        refine cd_seq ?_
        refine cd_region ?_
        refine st (ev_move rfl) rfl rfl rfl ?_
        refine st (ev_move rfl) rfl rfl rfl ?_
        refine st (ev_move rfl) rfl rfl rfl ?_
        refine st_inv invSwap rfl rfl (fun w1 sw => qswap_any b qv c m i k w1 (by omega) (by omega) hi.2.2.1 (sw.blk_eq (h := 0) rfl) (sw.hold 1 _ rfl) (sw.apart 0 _ 1 _ rfl rfl (by decide) _ (by simp [Ent.ids]))) (mod_two rfl rfl) rfl rfl (fun _ _ => ?_)
        refine op_nil ?_
        refine ax_then ?_
        refine At.regs (L' := [(0, _), (1, _), (2, _), (7, _), (9, _), (35, _), (36, _), (37, _), (38, _), (39, _), (40, _), (41, _), (42, _)]) (.cons rfl (.cons rfl (.cons rfl (.cons rfl (.cons rfl (.cons rfl (.cons rfl (.cons rfl (.cons rfl (.cons rfl (.cons rfl (.cons rfl (.cons rfl (.nil _)))))))))))))) ?_
        refine cd_region ?_
        refine st (ev_move rfl) rfl rfl rfl ?_
        refine st (ev_assign rfl) rfl rfl rfl ?_
        refine op_nil ?_
        refine ax_block ?_
        exact at_again ((k, Bs.swapS m i k)) (⟨by show k ≤ 1000000; omega, by show (Bs.swapS m _ _).length = _; rw [Bs.swapS_len]; exact hi.2.1, Bs.swapS_one hi.2.2.1 (by omega) (by omega), by rw [← hi.2.2.2]; exact hstep.symm⟩) (by show n - k < n - i; omega) (.cons rfl (.cons rfl (.cons rfl (.cons rfl (.nil _))))) (.cons rfl (.cons rfl (.nil _))) (.nil _)
end Go.Proofs.Ytfddplpljjlgiaa

namespace Go.Proofs.Ytfddplpljjlgiaa
open Go Go.RowKit Fw
open Bs
set_option linter.unusedVariables false
set_option linter.unusedSimpArgs false
set_option maxRecDepth 20000 in
set_option maxHeartbeats 2000000 in
theorem qpush_any (b : Nat) (qv c : Value) (l : List Bs.W) (x : Bs.W) (w : World) (hx : x.dv.oneCell' = true) (hll : l.length ≤ 100000) (hb : w.heap[b]? = some (.cells (List.toArray [qv, c]) 52)) (hv : Own w qv 57 3 (Bs.wflat l)) (hbv : b ∉ blkOf qv) : Calls Try.prog 66 #[.pointer (some ⟨b, 0, none⟩), .iface 57 (.agg (List.toArray [.int .i64 x.id, x.dv, .int .i64 x.came]))] w (Post (ι := Value) w (b :: blkOf qv) (fun _ => True) (fun _ => .tuple #[]) (fun v => [(0, .blk (b) (.cells ([v, c]).toArray 52)), (1, .own (v) 57 3 (Bs.wflat (l ++ [x])))])) := by
  refine calls_at (vs := [.pointer (some ⟨b, 0, none⟩), .iface 57 (.agg (List.toArray [.int .i64 x.id, x.dv, .int .i64 x.came]))]) (X := b :: blkOf qv) (H := [(0, .blk (b) (.cells ([qv, c]).toArray 52)), (1, .own (qv) 57 3 (Bs.wflat (l)))]) (F := []) 20 Try.func66 rfl rfl rfl (Sat.two 0 1 (by decide) hb hv hbv) ?_
  refine cd_seq ?_
  refine cd_region ?_
  refine st (ev_move rfl) rfl rfl rfl ?_
  refine st (ev_assert Try.underlying57 rfl rfl) rfl rfl rfl ?_
  refine st (ev_move rfl) rfl rfl rfl ?_
  refine st (ev_extract rfl rfl) rfl rfl rfl ?_
  refine st (ev_extract rfl rfl) rfl rfl rfl ?_
  refine st_alloc (h := 4) ty57 rfl rfl rfl (fun b4 => ?_)
  refine st_store_all 4 ty57 rfl rfl rfl rfl rfl (by intro u0 hu0; simp only [List.mem_cons, List.not_mem_nil, or_false] at hu0; rcases hu0 with rfl | rfl | rfl; rfl; exact hx; rfl) rfl rfl ?_
  refine st (ev_assign rfl) rfl rfl rfl ?_
  refine op_nil ?_
  refine ax_then ?_
  refine At.regs (L' := [(0, _), (4, _), (5, _)]) (.cons rfl (.cons rfl (.cons rfl (.nil _)))) ?_
  refine cd_seq ?_
  refine cd_region ?_
  refine st (ev_move rfl) rfl rfl rfl ?_
  refine op_nil ?_
  refine ax_then ?_
  refine At.regs (L' := [(0, _), (4, _), (11, _)]) (.cons rfl (.cons rfl (.cons rfl (.nil _)))) ?_
  refine cd_true rfl ?_
  refine at_freeze_blk (h := 4) (H' := [(0, _), (1, _)]) 4 rfl (.cons rfl (.cons rfl (.nil _))) rfl ?_
  refine cd_mix hmix ?_
  refine mx (i := 0) rfl (by decide +kernel) (by decide +kernel) (by decide +kernel) rfl (fun w0 => ev_move rfl) rfl rfl (Sub.refl _) ?_
  refine mx (i := 1) rfl (by decide +kernel) (by decide +kernel) (by decide +kernel) rfl (fun w0 => ev_move rfl) rfl rfl (Sub.refl _) ?_
  refine mx (i := 2) rfl (by decide +kernel) (by decide +kernel) (by decide +kernel) rfl (fun w0 => ev_nilCheck rfl) rfl rfl (Sub.refl _) ?_
  refine mx (i := 4) rfl (by decide +kernel) (by decide +kernel) (by decide +kernel) rfl (fun w0 => ld_mem_all (h := 4) ty57 rfl rfl rfl rfl) rfl rfl (Sub.refl _) ?_
  refine mx_two (i := 3) (j := 5) (by decide +kernel) (Sub.refl _) ?_ ?_
  ·
    refine wo (i := 3) rfl ?_
    refine st (ld_blk1 (h := 0) ty50 rfl rfl rfl rfl) rfl rfl rfl ?_
    refine op_nil ?_
    refine ax_then ?_
    refine mx_one (i := 5) (by decide +kernel) (Sub.refl _) ?_
    refine wo (i := 5) rfl ?_
    refine st_bs1 (h := 17) (cs := Bs.wcells x) Try.underlying50 ty57 rfl rfl rfl (by decide) (by decide) rfl rfl (fun b17 => ?_)
    refine op_nil ?_
    refine ax_then ?_
    refine mx_one (i := 6) (by decide +kernel) (Sub.refl _) ?_
    refine wo (i := 6) rfl ?_
    refine st_append (n := l.length) (m := 1) (h := 1) (cs := Bs.wcells x) Try.underlying50 Try.underlying50 ty57 rfl rfl rfl rfl (fun w1 sw => sw.own_rd (h := 17) rfl) (by decide) (Bs.wflat_len l) rfl (by omega) (by decide) (Bs.wcells_one hx) rfl rfl (fun v18 => ?_)
    refine at_heq (i := 1) (v' := .own (v18) 57 3 (Bs.wflat (l ++ [x]))) rfl (by rw [Bs.wflat_snoc]) ?_
    refine at_own_shape (h := 1) rfl (fun hs18 => ?_)
    refine op_nil ?_
    refine ax_then ?_
    refine mx (i := 7) rfl (by decide +kernel) (by decide +kernel) (by decide +kernel) rfl (fun w0 => ev_nilCheck rfl) rfl rfl (Sub.refl _) ?_
    refine mx_one (i := 8) (by decide +kernel) (Sub.refl _) ?_
    refine wo (i := 8) rfl ?_
    refine st_store1 0 ty50 rfl rfl rfl hs18.2 (show 0 < 2 from by decide) rfl ?_
    refine at_heq (i := 0) (v' := .blk (b) (.cells ([v18, c]).toArray 52)) rfl rfl ?_
    refine op_nil ?_
    refine ax_then ?_
    refine mx_done (by decide +kernel) (Sub.refl _) ?_
    refine rt_none (.inr rfl) Try.results66 ?_
    exact fun w1 sw => ⟨v18, trivial, rfl, sw.gives (N := [(0, _), (1, _)]) (.cons rfl (.cons rfl (.nil _)))⟩
  ·
    refine wo (i := 5) rfl ?_
    refine st_bs1 (h := 17) (cs := Bs.wcells x) Try.underlying50 ty57 rfl rfl rfl (by decide) (by decide) rfl rfl (fun b17 => ?_)
    refine op_nil ?_
    refine ax_then ?_
    refine mx_one (i := 3) (by decide +kernel) (Sub.refl _) ?_
    refine wo (i := 3) rfl ?_
    refine st (ld_blk1 (h := 0) ty50 rfl rfl rfl rfl) rfl rfl rfl ?_
    refine op_nil ?_
    refine ax_then ?_
    refine mx_one (i := 6) (by decide +kernel) (Sub.refl _) ?_
    refine wo (i := 6) rfl ?_
    refine st_append (n := l.length) (m := 1) (h := 1) (cs := Bs.wcells x) Try.underlying50 Try.underlying50 ty57 rfl rfl rfl rfl (fun w1 sw => sw.own_rd (h := 17) rfl) (by decide) (Bs.wflat_len l) rfl (by omega) (by decide) (Bs.wcells_one hx) rfl rfl (fun v18 => ?_)
    refine at_heq (i := 1) (v' := .own (v18) 57 3 (Bs.wflat (l ++ [x]))) rfl (by rw [Bs.wflat_snoc]) ?_
    refine at_own_shape (h := 1) rfl (fun hs18 => ?_)
    refine op_nil ?_
    refine ax_then ?_
    refine mx (i := 7) rfl (by decide +kernel) (by decide +kernel) (by decide +kernel) rfl (fun w0 => ev_nilCheck rfl) rfl rfl (Sub.refl _) ?_
    refine mx_one (i := 8) (by decide +kernel) (Sub.refl _) ?_
    refine wo (i := 8) rfl ?_
    refine st_store1 0 ty50 rfl rfl rfl hs18.2 (show 0 < 2 from by decide) rfl ?_
    refine at_heq (i := 0) (v' := .blk (b) (.cells ([v18, c]).toArray 52)) rfl rfl ?_
    refine op_nil ?_
    refine ax_then ?_
    refine mx_done (by decide +kernel) (Sub.refl _) ?_
    refine rt_none (.inr rfl) Try.results66 ?_
    exact fun w1 sw => ⟨v18, trivial, rfl, sw.gives (N := [(0, _), (1, _)]) (.cons rfl (.cons rfl (.nil _)))⟩
set_option maxRecDepth 20000 in
set_option maxHeartbeats 2000000 in
theorem qpop_any (b : Nat) (qv c : Value) (l : List Bs.W) (w : World) (hpos : 0 < l.length) (hll : l.length ≤ 100000) (ho : ∀ x, x ∈ l → x.dv.oneCell' = true) (hb : w.heap[b]? = some (.cells (List.toArray [qv, c]) 52)) (hv : Own w qv 57 3 (Bs.wflat l)) (hbv : b ∉ blkOf qv) : Calls Try.prog 65 #[.pointer (some ⟨b, 0, none⟩)] w (Post (ι := Unit) w (b :: blkOf qv) (fun _ => True) (fun _ => .iface 57 (.agg (List.toArray [.int .i64 (l.getD (l.length - 1) Bs.w0).id, (l.getD (l.length - 1) Bs.w0).dv, .int .i64 (l.getD (l.length - 1) Bs.w0).came]))) (fun _ => [(0, .blk (b) (.cells ([(cutAt 3 qv 0 (l.length - 1)), c]).toArray 52)), (1, .own ((cutAt 3 qv 0 (l.length - 1))) 57 3 (Bs.wflat ((l.take (l.length - 1)))))])) := by
  refine calls_at (vs := [.pointer (some ⟨b, 0, none⟩)]) (X := b :: blkOf qv) (H := [(0, .blk (b) (.cells ([qv, c]).toArray 52)), (1, .own (qv) 57 3 (Bs.wflat (l)))]) (F := []) 25 Try.func65 rfl rfl rfl (Sat.two 0 1 (by decide) hb hv hbv) ?_
  refine cd_seq ?_
  refine cd_region ?_
  refine st (ev_assign rfl) rfl rfl rfl ?_
  refine op_nil ?_
  refine ax_then ?_
  refine At.regs (L' := [(0, _), (2, _)]) (.cons rfl (.cons rfl (.nil _))) ?_
  refine cd_seq ?_
  refine cd_region ?_
  refine st (ev_move rfl) rfl rfl rfl ?_
  refine st (ev_nilCheck rfl) rfl rfl rfl ?_
  refine st (ld_blk1 (h := 0) ty50 rfl rfl rfl rfl) rfl rfl rfl ?_
  refine st (ev_len_own (h := 1) (n := l.length) Try.underlying50 rfl rfl (Bs.wflat_len l) (by decide)) rfl rfl rfl ?_
  refine st (ev_sub64 rfl rfl (by omega) (by omega)) rfl rfl rfl ?_
  refine st (ev_assign rfl) rfl rfl rfl ?_
  refine op_nil ?_
  refine ax_then ?_
  refine At.regs (L' := [(0, _), (2, _), (3, _)]) (.cons rfl (.cons rfl (.cons rfl (.nil _)))) ?_
  refine cd_seq ?_
  refine cd_region ?_
  refine st (ev_move rfl) rfl rfl rfl ?_
  refine st (ev_nilCheck rfl) rfl rfl rfl ?_
  refine st (ld_blk1 (h := 0) ty50 rfl rfl rfl rfl) rfl rfl rfl ?_
  refine st (ev_move rfl) rfl rfl rfl ?_
  refine st (ev_indexAddr_own (h := 1) (n := l.length) Try.underlying50 ty57 rfl rfl rfl (Bs.wflat_len l) (by decide) (by omega) (by omega)) rfl rfl rfl ?_
  refine st (ld_own (k := ((l.length : Int) - 1).toNat * 3) (h := 1) ty57 rfl rfl rfl (by decide) (by rw [Bs.wflat_len]; omega)) rfl rfl rfl ?_
  refine at_eq (i := 15) (v' := .agg (List.toArray [.int .i64 (l.getD (l.length - 1) Bs.w0).id, (l.getD (l.length - 1) Bs.w0).dv, .int .i64 (l.getD (l.length - 1) Bs.w0).came])) rfl (congrArg (fun x => Value.agg (List.toArray x)) (by rw [show ((l.length : Int) - 1).toNat = l.length - 1 by omega]; exact Bs.wflat_get (by omega))) ?_
  refine st_alloc (h := 4) ty57 rfl rfl rfl (fun b4 => ?_)
  refine st_store_all 4 ty57 rfl rfl rfl rfl rfl (by intro u0 hu0; simp only [List.mem_cons, List.not_mem_nil, or_false] at hu0; rcases hu0 with rfl | rfl | rfl; rfl; exact (ho _ (Bs.getD_mem (by omega))); rfl) rfl rfl ?_
  refine op_nil ?_
  refine ax_then ?_
  refine At.regs (L' := [(0, _), (2, _), (3, _), (4, _)]) (.cons rfl (.cons rfl (.cons rfl (.cons rfl (.nil _))))) ?_
  refine cd_seq ?_
  refine cd_region ?_
  refine st (ev_move rfl) rfl rfl rfl ?_
  refine st (ev_move rfl) rfl rfl rfl ?_
  refine st (ev_nilCheck rfl) rfl rfl rfl ?_
  refine st (ld_blk1 (h := 0) ty50 rfl rfl rfl rfl) rfl rfl rfl ?_
  refine st (ev_move rfl) rfl rfl rfl ?_
  refine st (ev_slice_rd_hi (n := l.length) Try.underlying50 ty57 rfl rfl (fun w1 sw => sw.own_rd (h := 1) rfl) (by decide) (Bs.wflat_len l) (by omega) (by omega)) rfl rfl rfl ?_
  refine at_eq (i := 21) (v' := (cutAt 3 qv 0 (l.length - 1))) rfl (by rw [show ((l.length : Int) - 1).toNat = l.length - 1 by omega]) ?_
  refine at_own_take (h := 1) (n := l.length) (hi := l.length - 1) rfl (by decide) (Bs.wflat_len l) (by omega) ?_
  refine at_heq (i := 1) (v' := .own ((cutAt 3 qv 0 (l.length - 1))) 57 3 (Bs.wflat ((l.take (l.length - 1))))) rfl (by rw [Bs.wflat_take l (by omega)]) ?_
  refine at_own_shape (h := 1) rfl (fun hs1 => ?_)
  refine st (ev_nilCheck rfl) rfl rfl rfl ?_
  refine st_store1 0 ty50 rfl rfl rfl hs1.2 (show 0 < 2 from by decide) rfl ?_
  refine at_heq (i := 0) (v' := .blk (b) (.cells ([(cutAt 3 qv 0 (l.length - 1)), c]).toArray 52)) rfl rfl ?_
  refine op_nil ?_
  refine ax_then ?_
  refine At.regs (L' := [(2, _), (4, _)]) (.cons rfl (.cons rfl (.nil _))) ?_
  refine cd_seq ?_
  refine cd_region ?_
  refine st (ld_blk_all (h := 4) ty57 rfl rfl rfl rfl) rfl rfl rfl ?_
  refine st (ev_mkif Try.underlying57 rfl rfl) rfl rfl rfl ?_
  refine st (ev_assign rfl) rfl rfl rfl ?_
  refine op_nil ?_
  refine ax_then ?_
  refine At.regs (L' := [(2, _)]) (.cons rfl (.nil _)) ?_
  refine cd_ret ?_
  refine rt_tmp (.inl rfl) Try.results65 rfl ?_
  exact fun w1 sw => ⟨(), trivial, rfl, sw.gives (N := [(0, _), (1, _)]) (.cons rfl (.cons rfl (.nil _)))⟩
set_option maxRecDepth 20000 in
set_option maxHeartbeats 2000000 in
theorem hpush_any (b : Nat) (qv c : Value) (l : List Bs.W) (x : Bs.W) (w : World) (hx : x.dv.oneCell' = true) (hll : l.length ≤ 100000) (ho : ∀ x, x ∈ l → x.dv.oneCell' = true) (hb : w.heap[b]? = some (.cells (List.toArray [qv, c]) 52)) (hv : Own w qv 57 3 (Bs.wflat l)) (hbv : b ∉ blkOf qv) : Calls Try.prog 17 #[.iface 54 (.pointer (some ⟨b, 0, none⟩)), .iface 57 (.agg (List.toArray [.int .i64 x.id, x.dv, .int .i64 x.came]))] w (Post (ι := Value) w (b :: blkOf qv) (fun _ => True) (fun _ => .tuple #[]) (fun v => [(0, .blk (b) (.cells ([v, c]).toArray 52)), (1, .own (v) 57 3 (Bs.wflat (Bs.upS (l ++ [x]) l.length)))])) := by
  have hl1 : (l ++ [x]).length = l.length + 1 := by simp
  have ho1 : ∀ y, y ∈ l ++ [x] → y.dv.oneCell' = true := fun y hy => (List.mem_append.1 hy).elim (ho y) (fun h => by rw [List.mem_singleton.1 h]; exact hx)
  refine calls_at (vs := [.iface 54 (.pointer (some ⟨b, 0, none⟩)), .iface 57 (.agg (List.toArray [.int .i64 x.id, x.dv, .int .i64 x.came]))]) (X := b :: blkOf qv) (H := [(0, .blk (b) (.cells ([qv, c]).toArray 52)), (1, .own (qv) 57 3 (Bs.wflat (l)))]) (F := []) 12 Try.func17 rfl rfl rfl (Sat.two 0 1 (by decide) hb hv hbv) ?_
  refine cd_seq ?_
  refine cd_region ?_
  refine st (ev_move rfl) rfl rfl rfl ?_
  refine st (ev_move rfl) rfl rfl rfl ?_
  refine st_inv invPush rfl rfl (fun w1 sw => qpush_any b qv c l x w1 hx hll (sw.blk_eq (h := 0) rfl) (sw.hold 1 _ rfl) (sw.apart 0 _ 1 _ rfl rfl (by decide) _ (by simp [Ent.ids]))) (mod_two rfl rfl) rfl rfl (fun v6 _ => ?_)
  refine op_nil ?_
  refine ax_then ?_
  refine At.regs (L' := [(0, _)]) (.cons rfl (.nil _)) ?_
  refine cd_region ?_
  refine st (ev_move rfl) rfl rfl rfl ?_
  refine st (ev_move rfl) rfl rfl rfl ?_
  refine st_invv invLen rfl rfl (fun w1 sw => qlen_any b v6 c (l ++ [x]) w1 (lies_blk (sw.blk_eq (h := 0) rfl)) (sw.own_rd (h := 1) rfl)) rfl rfl ?_
  refine st (ev_sub64 rfl rfl (by omega) (by omega)) rfl rfl rfl ?_
  refine at_eq (i := 10) (v' := .int .i64 (l.length : Nat)) rfl (congrArg (Value.int .i64) (by omega)) ?_
  refine st_call has25 rfl (fun w1 sw => up_any b v6 c (l ++ [x]) l.length w1 (by omega) (by omega) ho1 (sw.blk_eq (h := 0) rfl) (sw.hold 1 _ rfl) (sw.apart 0 _ 1 _ rfl rfl (by decide) _ (by simp [Ent.ids]))) (mod_two rfl rfl) rfl rfl (fun _ _ => ?_)
  refine op_nil ?_
  refine rt_none (.inr rfl) Try.results17 ?_
  exact fun w1 sw => ⟨v6, trivial, rfl, sw.gives (N := [(0, _), (1, _)]) (.cons rfl (.cons rfl (.nil _)))⟩
set_option maxRecDepth 20000 in
set_option maxHeartbeats 2000000 in
theorem hpop_any (b : Nat) (qv c : Value) (l : List Bs.W) (w : World) (hpos : 0 < l.length) (hll : l.length ≤ 100000) (ho : ∀ x, x ∈ l → x.dv.oneCell' = true) (hb : w.heap[b]? = some (.cells (List.toArray [qv, c]) 52)) (hv : Own w qv 57 3 (Bs.wflat l)) (hbv : b ∉ blkOf qv) : Calls Try.prog 19 #[.iface 54 (.pointer (some ⟨b, 0, none⟩))] w (Post (ι := Unit) w (b :: blkOf qv) (fun _ => True) (fun _ => .iface 57 (.agg (List.toArray [.int .i64 ((Bs.downS (Bs.swapS l 0 (l.length - 1)) 0 (l.length - 1)).getD (l.length - 1) Bs.w0).id, ((Bs.downS (Bs.swapS l 0 (l.length - 1)) 0 (l.length - 1)).getD (l.length - 1) Bs.w0).dv, .int .i64 ((Bs.downS (Bs.swapS l 0 (l.length - 1)) 0 (l.length - 1)).getD (l.length - 1) Bs.w0).came]))) (fun _ => [(0, .blk (b) (.cells ([(cutAt 3 qv 0 (l.length - 1)), c]).toArray 52)), (1, .own ((cutAt 3 qv 0 (l.length - 1))) 57 3 (Bs.wflat ((Bs.downS (Bs.swapS l 0 (l.length - 1)) 0 (l.length - 1)).take (l.length - 1))))])) := by
  have hs1 := Bs.swapS_len l 0 (l.length - 1)
  have ho1 := Bs.swapS_one ho (i := 0) (k := (l.length - 1)) (by omega) (by omega)
  have hd1 := Bs.downS_len (Bs.swapS l 0 (l.length - 1)) 0 (l.length - 1)
  have ho2 := Bs.downS_one ho1 0 (l.length - 1) (by omega)
  refine calls_at (vs := [.iface 54 (.pointer (some ⟨b, 0, none⟩))]) (X := b :: blkOf qv) (H := [(0, .blk (b) (.cells ([qv, c]).toArray 52)), (1, .own (qv) 57 3 (Bs.wflat (l)))]) (F := []) 15 Try.func19 rfl rfl rfl (Sat.two 0 1 (by decide) hb hv hbv) ?_
  refine cd_seq ?_
  refine cd_region ?_
  refine st (ev_assign rfl) rfl rfl rfl ?_
  refine op_nil ?_
  refine ax_then ?_
  refine At.regs (L' := [(0, _), (2, _)]) (.cons rfl (.cons rfl (.nil _))) ?_
  refine cd_seq ?_
  refine cd_region ?_
  refine st (ev_move rfl) rfl rfl rfl ?_
  refine st_invv invLen rfl rfl (fun w1 sw => qlen_any b qv c l w1 (lies_blk (sw.blk_eq (h := 0) rfl)) (sw.own_rd (h := 1) rfl)) rfl rfl ?_
  refine st (ev_sub64 rfl rfl (by omega) (by omega)) rfl rfl rfl ?_
  refine at_eq (i := 6) (v' := .int .i64 ((l.length - 1) : Nat)) rfl (congrArg (Value.int .i64) (by omega)) ?_
  refine st (ev_assign rfl) rfl rfl rfl ?_
  refine op_nil ?_
  refine ax_then ?_
  refine At.regs (L' := [(0, _), (2, _), (3, _)]) (.cons rfl (.cons rfl (.cons rfl (.nil _)))) ?_
  refine cd_seq ?_
  refine cd_region ?_
  refine st (ev_move rfl) rfl rfl rfl ?_
  refine st (ev_move rfl) rfl rfl rfl ?_
  refine st_inv invSwap rfl rfl (fun w1 sw => qswap_any b qv c l 0 (l.length - 1) w1 (by omega) (by omega) ho (sw.blk_eq (h := 0) rfl) (sw.hold 1 _ rfl) (sw.apart 0 _ 1 _ rfl rfl (by decide) _ (by simp [Ent.ids]))) (mod_two rfl rfl) rfl rfl (fun _ _ => ?_)
  refine op_nil ?_
  refine ax_then ?_
  refine At.regs (L' := [(0, _), (2, _), (3, _)]) (.cons rfl (.cons rfl (.cons rfl (.nil _)))) ?_
  refine cd_seq ?_
  refine cd_region ?_
  refine st (ev_move rfl) rfl rfl rfl ?_
  refine st (ev_move rfl) rfl rfl rfl ?_
  refine st_call has27 rfl (fun w1 sw => down_any b qv c (Bs.swapS l 0 (l.length - 1)) 0 (l.length - 1) w1 (by omega) (by omega) (by omega) ho1 (sw.blk_eq (h := 0) rfl) (sw.hold 1 _ rfl) (sw.apart 0 _ 1 _ rfl rfl (by decide) _ (by simp [Ent.ids]))) (mod_two rfl rfl) rfl rfl (fun x12 _ => ?_)
  refine op_nil ?_
  refine ax_then ?_
  refine At.regs (L' := [(0, _), (2, _)]) (.cons rfl (.cons rfl (.nil _))) ?_
  refine cd_seq ?_
  refine cd_region ?_
  refine st (ev_move rfl) rfl rfl rfl ?_
  refine st_inv invPop rfl rfl (fun w1 sw => qpop_any b qv c (Bs.downS (Bs.swapS l 0 (l.length - 1)) 0 (l.length - 1)) w1 (by omega) (by omega) ho2 (sw.blk_eq (h := 0) rfl) (sw.hold 1 _ rfl) (sw.apart 0 _ 1 _ rfl rfl (by decide) _ (by simp [Ent.ids]))) (mod_two rfl rfl) rfl rfl (fun _ _ => ?_)
  refine at_eq (i := 14) (v' := .iface 57 (.agg (List.toArray [.int .i64 ((Bs.downS (Bs.swapS l 0 (l.length - 1)) 0 (l.length - 1)).getD (l.length - 1) Bs.w0).id, ((Bs.downS (Bs.swapS l 0 (l.length - 1)) 0 (l.length - 1)).getD (l.length - 1) Bs.w0).dv, .int .i64 ((Bs.downS (Bs.swapS l 0 (l.length - 1)) 0 (l.length - 1)).getD (l.length - 1) Bs.w0).came]))) rfl (by rw [hd1, hs1]) ?_
  refine at_heq (i := 0) (v' := .blk (b) (.cells ([(cutAt 3 qv 0 (l.length - 1)), c]).toArray 52)) rfl (by rw [hd1, hs1]) ?_
  refine at_heq (i := 1) (v' := .own ((cutAt 3 qv 0 (l.length - 1))) 57 3 (Bs.wflat ((Bs.downS (Bs.swapS l 0 (l.length - 1)) 0 (l.length - 1)).take (l.length - 1)))) rfl (by rw [hd1, hs1]) ?_
  refine st (ev_assign rfl) rfl rfl rfl ?_
  refine op_nil ?_
  refine ax_then ?_
  refine At.regs (L' := [(2, _)]) (.cons rfl (.nil _)) ?_
  refine cd_ret ?_
  refine rt_tmp (.inl rfl) Try.results19 rfl ?_
  exact fun w1 sw => ⟨(), trivial, rfl, sw.gives (N := [(0, _), (1, _)]) (.cons rfl (.cons rfl (.nil _)))⟩
end Go.Proofs.Ytfddplpljjlgiaa

namespace Go.Proofs.Ytfddplpljjlgiaa
open Go Go.RowKit Fw
open Bs
set_option linter.unusedVariables false
set_option linter.unusedSimpArgs false
set_option maxRecDepth 20000 in
set_option maxHeartbeats 1000000 in
theorem clone_nil (w : World) : Calls Try.prog 26 #[.slice none 0 0] w (Post (ι := Value) w [] (fun _ => True) (fun v => v) (fun v => [(0, .own (v) 5 1 (ints .u8 ([])))])) := by
  refine calls_at (vs := [.slice none 0 0]) (X := []) (H := []) (F := []) 8 Try.func26 rfl rfl rfl (Sat.start0 w) ?_
  refine cd_seq ?_
  refine cd_region ?_
  refine st (ev_assign rfl) rfl rfl rfl ?_
  refine at_own_nil 2 5 1 ?_
  refine at_heq (i := 2) (v' := .own (.slice none 0 0) 5 1 (ints .u8 [])) rfl rfl ?_
  refine op_nil ?_
  refine ax_then ?_
  refine At.regs (L' := [(0, _), (2, _)]) (.cons rfl (.cons rfl (.nil _))) ?_
  refine cd_seq ?_
  refine cd_seq ?_
  refine cd_region ?_
  refine st (ev_move rfl) rfl rfl rfl ?_
  refine st (ev_eql_slice_nil Try.underlying27 rfl rfl) rfl rfl rfl ?_
  refine op_nil ?_
  refine ax_then ?_
  refine At.regs (L' := [(0, _), (2, _), (4, _)]) (.cons rfl (.cons rfl (.cons rfl (.nil _)))) ?_
  refine cd_true rfl ?_
  refine cd_seq ?_
  refine cd_region ?_
  refine st (ev_assign rfl) rfl rfl rfl ?_
  refine at_own_nil 2 5 1 ?_
  refine at_heq (i := 2) (v' := .own (.slice none 0 0) 5 1 (ints .u8 [])) rfl rfl ?_
  refine op_nil ?_
  refine ax_then ?_
  refine At.regs (L' := [(0, _), (2, _)]) (.cons rfl (.cons rfl (.nil _))) ?_
  refine cd_ret ?_
  refine ax_then_ret ?_
  refine rt_tmp (.inl rfl) Try.results26 rfl ?_
  exact fun w1 sw => ⟨_, trivial, rfl, (sw.gives (N := [(2, _)]) (.cons rfl (.nil _))).rn 0⟩
set_option maxRecDepth 20000 in
set_option maxHeartbeats 1000000 in
theorem clone_some (x : Addr) (n c : Nat) (l : List Int) (w : World) (hl : l.length ≤ 140737488352000) (h : Rd w (.slice (some x) n c) 1 (ints .u8 l)) : Calls Try.prog 26 #[.slice (some x) n c] w (Post (ι := Value) w [] (fun _ => True) (fun v => v) (fun v => [(0, .own (v) 5 1 (ints .u8 (l)))])) := by
  refine calls_at (vs := [.slice (some x) n c]) (X := []) (H := []) (F := [(0, .sl (.slice (some x) n c) 1 (ints .u8 (l)))]) 8 Try.func26 rfl rfl rfl (Sat.rd0 0 h) ?_
  refine cd_seq ?_
  refine cd_region ?_
  refine st (ev_assign rfl) rfl rfl rfl ?_
  refine at_own_nil 2 5 1 ?_
  refine at_heq (i := 2) (v' := .own (.slice none 0 0) 5 1 (ints .u8 [])) rfl rfl ?_
  refine op_nil ?_
  refine ax_then ?_
  refine At.regs (L' := [(0, _), (2, _)]) (.cons rfl (.cons rfl (.nil _))) ?_
  refine cd_seq ?_
  refine cd_seq ?_
  refine cd_region ?_
  refine st (ev_move rfl) rfl rfl rfl ?_
  refine st (ev_eql_slice_nil Try.underlying27 rfl rfl) rfl rfl rfl ?_
  refine op_nil ?_
  refine ax_then ?_
  refine At.regs (L' := [(0, _), (2, _), (4, _)]) (.cons rfl (.cons rfl (.cons rfl (.nil _)))) ?_
  refine cd_false rfl ?_
  refine cd_skip ?_
  refine ax_then ?_
  refine At.regs (L' := [(0, _), (2, _)]) (.cons rfl (.cons rfl (.nil _))) ?_
  refine cd_seq ?_
  refine cd_region ?_
  refine st_bsi (h := 5) (xs := []) Try.underlying27 ty5 (by decide) rfl rfl (by decide) rfl rfl (fun b5 => ?_)
  refine st (ev_move rfl) rfl rfl rfl ?_
  refine st_appendi (h := 5) Try.underlying27 Try.underlying27 ty5 rfl rfl rfl rfl (fun w1 sw => sw.sl_rd (h := 0) rfl) (by first | omega | (simp only [List.length_append, List.length_cons, List.length_nil, List.length_set, List.length_replicate, List.length_take, List.length_drop, ints_length, wr_length] <;> omega)) (by decide) rfl rfl (fun v7 => ?_)
  refine at_heq (i := 5) (v' := .own (v7) 5 1 (ints .u8 (l))) rfl (by rw [List.nil_append]) ?_
  refine st (ev_assign rfl) rfl rfl rfl ?_
  refine op_nil ?_
  refine ax_then ?_
  refine At.regs (L' := [(2, _)]) (.cons rfl (.nil _)) ?_
  refine cd_ret ?_
  refine rt_tmp (.inl rfl) Try.results26 rfl ?_
  exact fun w1 sw => ⟨_, trivial, rfl, (sw.gives (N := [(5, _)]) (.cons rfl (.nil _))).rn 0⟩
theorem clone_any (p : Value) (l : List Int) (w : World) (hl : l.length ≤ 140737488352000) (h : Rd w p 1 (ints .u8 l)) : Calls Try.prog 26 #[p] w (Post (ι := Value) w [] (fun _ => True) (fun v => v) (fun v => [(0, .own (v) 5 1 (ints .u8 (l)))])) := by
  have h' := h
  obtain ⟨a, len, cap, rfl, h1, h2, h3, h4⟩ := h
  cases a with
  | some x => exact clone_some x len cap l w hl h'
  | none =>
    have hc := h3 rfl
    have hn : len = 0 := by omega
    subst hc; subst hn
    have : l = [] := List.length_eq_zero_iff.1 (by rw [ints_length] at h1; omega)
    subst this
    exact clone_nil w
set_option maxRecDepth 20000 in
set_option maxHeartbeats 2000000 in
theorem copied_any (id : Int) (dv : Value) (data : List Int) (w : World) (hl : data.length ≤ 140737488352000) (h : Rd w dv 1 (ints .u8 data)) : Calls Try.prog 18 #[.agg (List.toArray [.int .i64 id, dv])] w (Post (ι := Value) w [] (fun _ => True) (fun v => .agg (List.toArray [.int .i64 id, v])) (fun v => [(0, .own (v) 5 1 (ints .u8 (data)))])) := by
  have hsd := rd_shape h
  refine calls_at (vs := [.agg (List.toArray [.int .i64 id, dv])]) (X := []) (H := []) (F := [(20, .sl (dv) 1 (ints .u8 (data)))]) 9 Try.func18 rfl rfl rfl (Sat.rd0 20 h) ?_
  refine cd_seq ?_
  refine cd_region ?_
  refine st_box (h := 1) rfl rfl rfl rfl (fun b1 => ?_)
  refine st_alloc (h := 2) ty29 rfl rfl rfl (fun b2 => ?_)
  refine op_nil ?_
  refine ax_then ?_
  refine At.regs (L' := [(1, _), (2, _)]) (.cons rfl (.cons rfl (.nil _))) ?_
  refine cd_seq ?_
  refine at_freeze_blk (h := 1) (H' := [(2, _)]) 1 rfl (.cons rfl (.nil _)) rfl ?_
  refine cd_mix hmix ?_
  refine mx (i := 0) rfl (by decide +kernel) (by decide +kernel) (by decide +kernel) rfl (fun w0 => ev_fieldAddr (b := _) Try.underlying29 (f := _) rfl ty3 (by decide) rfl) rfl rfl (Sub.refl _) ?_
  refine mx (i := 1) rfl (by decide +kernel) (by decide +kernel) (by decide +kernel) rfl (fun w0 => ld_mem1 (h := 1) ty3 rfl rfl rfl (Nat.zero_add _).symm rfl) rfl rfl (Sub.refl _) ?_
  refine mx (i := 2) rfl (by decide +kernel) (by decide +kernel) (by decide +kernel) rfl (fun w0 => ev_fieldAddr (b := _) Try.underlying29 (f := _) rfl ty27 (by decide) rfl) rfl rfl (Sub.refl _) ?_
  refine mx (i := 3) rfl (by decide +kernel) (by decide +kernel) (by decide +kernel) rfl (fun w0 => ld_mem1 (h := 1) ty27 rfl rfl rfl (Nat.zero_add _).symm rfl) rfl rfl (Sub.refl _) ?_
  refine mx_one (i := 4) (by decide +kernel) (Sub.refl _) ?_
  refine wo (i := 4) rfl ?_
  refine st_call has26 rfl (fun w1 sw => rn 7 (clone_any dv data w1 hl (sw.sl_rd (h := 20) rfl))) nil_all rfl rfl (fun v7 _ => ?_)
  refine at_own_shape (h := 7) rfl (fun hs7 => ?_)
  refine op_nil ?_
  refine ax_then ?_
  refine mx (i := 5) rfl (by decide +kernel) (by decide +kernel) (by decide +kernel) rfl (fun w0 => ev_build_struct ty29 rfl pl29 rfl ((fill_put (i := 0) (off := 0) (n := 1) (vs := [.int .i64 id]) rfl rfl rfl (Nat.le_of_ble_eq_true rfl)).trans ((fill_put (i := 1) (off := 1) (n := 1) (vs := [v7]) rfl hs7.1 rfl (Nat.le_of_ble_eq_true rfl)).trans fill_nil))) rfl rfl (Sub.refl _) ?_
  refine at_eq (i := 8) (v' := .agg (List.toArray [.int .i64 id, v7])) rfl rfl ?_
  refine mx_one (i := 6) (by decide +kernel) (Sub.refl _) ?_
  refine wo (i := 6) rfl ?_
  refine st_store_all 2 ty29 rfl rfl rfl rfl rfl (by intro u0 hu0; simp only [List.mem_cons, List.not_mem_nil, or_false] at hu0; rcases hu0 with rfl | rfl; rfl; exact hs7.2) rfl rfl ?_
  refine op_nil ?_
  refine ax_then ?_
  refine mx_done (by decide +kernel) (Sub.refl _) ?_
  refine ax_then ?_
  refine At.regs (L' := [(2, _)]) (.cons rfl (.nil _)) ?_
  refine cd_ret ?_
  refine rt_cell (h0 := 2) (.inl rfl) Try.results18 ty29 rfl rfl rfl rfl ?_
  exact fun w1 sw => ⟨v7, trivial, rfl, (sw.gives (N := [(7, _)]) (.cons rfl (.nil _))).rn 0⟩
set_option maxRecDepth 20000 in
set_option maxHeartbeats 1000000 in
theorem blen_any (b : Nat) (qv c : Value) (l : List Bs.W) (w : World) (h : Lies w b 0 [qv, c]) (h' : Rd w qv 3 (Bs.wflat l)) : Calls Try.prog 10 #[.pointer (some ⟨b, 0, none⟩)] w (PostV w (.int .i64 (l.length : Nat))) := by
  refine calls_at (vs := [.pointer (some ⟨b, 0, none⟩)]) (X := []) (H := []) (F := [(21, .mem b 0 [qv, c]), (20, .sl (qv) 3 (Bs.wflat (l)))]) 10 Try.func10 rfl rfl rfl ((Sat.rd0 20 h').read (f := .mem b 0 [qv, c]) 21 h off_nil) ?_
  refine cd_seq ?_
  refine cd_region ?_
  refine st (ev_assign rfl) rfl rfl rfl ?_
  refine op_nil ?_
  refine ax_then ?_
  refine At.regs (L' := [(0, _), (2, _)]) (.cons rfl (.cons rfl (.nil _))) ?_
  refine cd_seq ?_
  refine cd_seq ?_
  refine cd_region ?_
  refine st (ev_move rfl) rfl rfl rfl ?_
  refine st (ev_eql_ptr_nil Try.underlying23 rfl rfl) rfl rfl rfl ?_
  refine op_nil ?_
  refine ax_then ?_
  refine At.regs (L' := [(0, _), (2, _), (4, _)]) (.cons rfl (.cons rfl (.cons rfl (.nil _)))) ?_
  refine cd_false rfl ?_
  refine cd_skip ?_
  refine ax_then ?_
  refine At.regs (L' := [(0, _), (2, _)]) (.cons rfl (.cons rfl (.nil _))) ?_
  refine cd_seq ?_
  refine cd_region ?_
  refine st (ev_move rfl) rfl rfl rfl ?_
  refine st (ev_nilCheck rfl) rfl rfl rfl ?_
  refine st (ev_fieldAddr (b := _) Try.underlying52 (f := _) rfl ty50 (by decide) rfl) rfl rfl rfl ?_
  refine st (ld_mem1 (h := 21) ty50 rfl rfl rfl (Nat.zero_add _).symm rfl) rfl rfl rfl ?_
  refine st (ev_len_rd (h := 20) (n := l.length) Try.underlying50 rfl rfl (Bs.wflat_len l) (by decide)) rfl rfl rfl ?_
  refine st (ev_assign rfl) rfl rfl rfl ?_
  refine op_nil ?_
  refine ax_then ?_
  refine At.regs (L' := [(2, _)]) (.cons rfl (.nil _)) ?_
  refine cd_ret ?_
  refine rt_tmp (.inl rfl) Try.results10 rfl ?_
  exact fun w1 sw => ⟨rfl, sw.gives (.nil _)⟩
set_option maxRecDepth 20000 in
set_option maxHeartbeats 1000000 in
theorem blen_nil (w : World) : Calls Try.prog 10 #[.pointer none] w (PostV w (.int .i64 0)) := by
  refine calls_at (vs := [.pointer none]) (X := []) (H := []) (F := []) 10 Try.func10 rfl rfl rfl (Sat.start0 w) ?_
  refine cd_seq ?_
  refine cd_region ?_
  refine st (ev_assign rfl) rfl rfl rfl ?_
  refine op_nil ?_
  refine ax_then ?_
  refine At.regs (L' := [(0, _), (2, _)]) (.cons rfl (.cons rfl (.nil _))) ?_
  refine cd_seq ?_
  refine cd_seq ?_
  refine cd_region ?_
  refine st (ev_move rfl) rfl rfl rfl ?_
  refine st (ev_eql_ptr_nil Try.underlying23 rfl rfl) rfl rfl rfl ?_
  refine op_nil ?_
  refine ax_then ?_
  refine At.regs (L' := [(0, _), (2, _), (4, _)]) (.cons rfl (.cons rfl (.cons rfl (.nil _)))) ?_
  refine cd_true rfl ?_
  refine cd_seq ?_
  refine cd_region ?_
  refine st (ev_assign rfl) rfl rfl rfl ?_
  refine op_nil ?_
  refine ax_then ?_
  refine At.regs (L' := [(0, _), (2, _)]) (.cons rfl (.cons rfl (.nil _))) ?_
  refine cd_ret ?_
  refine ax_then_ret ?_
  refine rt_tmp (.inl rfl) Try.results10 rfl ?_
  exact fun w1 sw => ⟨rfl, sw.gives (.nil _)⟩
set_option maxRecDepth 20000 in
set_option maxHeartbeats 4000000 in
theorem send_ok (b : Nat) (qv dv : Value) (l : List Bs.W) (came : Nat) (id : Int) (data : List Int) (w : World) (hid : 0 ≤ id ∧ id ≤ 2047) (hdl : data.length ≤ 8) (hlen : l.length < 64) (hca : came ≤ 1000000) (hll : l.length ≤ 100000) (ho : ∀ x, x ∈ l → x.dv.oneCell' = true) (hb : w.heap[b]? = some (.cells (List.toArray [qv, .int .i64 (came : Nat)]) 52)) (hv : Own w qv 57 3 (Bs.wflat l)) (hbv : b ∉ blkOf qv) (h : Rd w dv 1 (ints .u8 data)) (hof : FE.off b (.sl (dv) 1 (ints .u8 (data)))) (hof2 : ∀ x, x ∈ blkOf qv → FE.off x (.sl (dv) 1 (ints .u8 (data)))) : Calls Try.prog 8 #[.pointer (some ⟨b, 0, none⟩), .agg (List.toArray [.int .i64 id, dv])] w (PostRM (ι := Value × Value) w (b :: blkOf qv) (fun x => x.2.oneCell' = true) (fun _ => .int .i64 0) (fun x => [(0, .blk (b) (.cells ([x.1, .int .i64 ((came + 1 : Nat) : Int)]).toArray 52)), (1, .own (x.1) 57 3 (Bs.wflat (Bs.upS (l ++ [(⟨id, x.2, data, ((came + 1 : Nat) : Int)⟩ : Bs.W)]) l.length)))]) (fun x => [(x.2, 1, ints .u8 data)])) := by
  have hsd := rd_shape h
  refine calls_at (vs := [.pointer (some ⟨b, 0, none⟩), .agg (List.toArray [.int .i64 id, dv])]) (X := b :: blkOf qv) (H := [(0, .blk (b) (.cells ([qv, .int .i64 (came : Nat)]).toArray 52)), (1, .own (qv) 57 3 (Bs.wflat (l)))]) (F := [(2, .sl (dv) 1 (ints .u8 (data)))]) 51 Try.func8 rfl rfl rfl ((Sat.two 0 1 (by decide) hb hv hbv).read2 (f := .sl (dv) 1 (ints .u8 (data))) 2 h hof hof2) ?_
  refine cd_seq ?_
  refine cd_region ?_
  refine st_box (h := 3) rfl rfl rfl rfl (fun b3 => ?_)
  refine st (ev_assign rfl) rfl rfl rfl ?_
  refine op_nil ?_
  refine ax_then ?_
  refine At.regs (L' := [(0, _), (3, _), (4, _)]) (.cons rfl (.cons rfl (.cons rfl (.nil _)))) ?_
  refine cd_seq ?_
  refine cd_block ?_
  refine cd_seq ?_
  refine cd_region ?_
  refine st (ev_move rfl) rfl rfl rfl ?_
  refine st (ev_eql_ptr_nil Try.underlying23 rfl rfl) rfl rfl rfl ?_
  refine st (ev_move rfl) rfl rfl rfl ?_
  refine st (ev_fieldAddr (b := _) Try.underlying29 (f := _) rfl ty3 (by decide) rfl) rfl rfl rfl ?_
  refine st (ld_blk1 (h := 3) ty3 rfl rfl rfl rfl) rfl rfl rfl ?_
  refine st (ev_lss rfl rfl) rfl rfl rfl ?_
  refine st (ev_pick_f rfl rfl) rfl rfl rfl ?_
  refine st (ev_move rfl) rfl rfl rfl ?_
  refine at_eq (i := 13) (v' := .bool false) rfl (by simp only [Value.bool.injEq, decide_eq_true_eq, decide_eq_false_iff_not]; omega) ?_
  refine st (ev_fieldAddr (b := _) Try.underlying29 (f := _) rfl ty3 (by decide) rfl) rfl rfl rfl ?_
  refine st (ld_blk1 (h := 3) ty3 rfl rfl rfl rfl) rfl rfl rfl ?_
  refine st (ev_gtr rfl rfl) rfl rfl rfl ?_
  refine st (ev_pick_f rfl rfl) rfl rfl rfl ?_
  refine st (ev_move rfl) rfl rfl rfl ?_
  refine at_eq (i := 18) (v' := .bool false) rfl (by simp only [Value.bool.injEq, decide_eq_true_eq, decide_eq_false_iff_not]; omega) ?_
  refine st (ev_fieldAddr (b := _) Try.underlying29 (f := _) rfl ty27 (by decide) rfl) rfl rfl rfl ?_
  refine st (ld_blk1 (h := 3) ty27 rfl rfl rfl rfl) rfl rfl rfl ?_
  refine st (ev_len_rdi (h := 2) Try.underlying27 rfl rfl) rfl rfl rfl ?_
  refine st (ev_gtr rfl rfl) rfl rfl rfl ?_
  refine st (ev_pick_f rfl rfl) rfl rfl rfl ?_
  refine st (ev_assign rfl) rfl rfl rfl ?_
  refine op_nil ?_
  refine ax_then ?_
  refine At.regs (L' := [(0, _), (3, _), (4, _), (5, _)]) (.cons rfl (.cons rfl (.cons rfl (.cons rfl (.nil _))))) ?_
  refine cd_if_f rfl (by omega) ?_
  refine cd_seq ?_
  refine cd_region ?_
  refine st (ev_move rfl) rfl rfl rfl ?_
  refine st (ev_nilCheck rfl) rfl rfl rfl ?_
  refine st (ev_fieldAddr (b := _) Try.underlying52 (f := _) rfl ty50 (by decide) rfl) rfl rfl rfl ?_
  refine st (ld_blk1 (h := 0) ty50 rfl rfl rfl rfl) rfl rfl rfl ?_
  refine st (ev_len_own (h := 1) (n := l.length) Try.underlying50 rfl rfl (Bs.wflat_len l) (by decide)) rfl rfl rfl ?_
  refine st (ev_geq rfl rfl) rfl rfl rfl ?_
  refine st (ev_assign rfl) rfl rfl rfl ?_
  refine op_nil ?_
  refine ax_then ?_
  refine At.regs (L' := [(0, _), (3, _), (4, _), (24, _)]) (.cons rfl (.cons rfl (.cons rfl (.cons rfl (.nil _))))) ?_
  refine cd_if_f rfl (by omega) ?_
  refine cd_skip ?_
  refine ax_block ?_
  refine ax_then ?_
  refine At.regs (L' := [(0, _), (3, _), (4, _)]) (.cons rfl (.cons rfl (.cons rfl (.nil _)))) ?_
  refine cd_seq ?_
  refine cd_region ?_
  refine st (ev_move rfl) rfl rfl rfl ?_
  refine st (ev_nilCheck rfl) rfl rfl rfl ?_
  refine st (ev_fieldAddr (b := _) Try.underlying52 (f := _) rfl ty3 (by decide) rfl) rfl rfl rfl ?_
  refine st (ld_blk1 (h := 0) ty3 rfl rfl rfl rfl) rfl rfl rfl ?_
  refine st (ev_add64 rfl rfl (by omega) (by omega)) rfl rfl rfl ?_
  refine st (ev_nilCheck rfl) rfl rfl rfl ?_
  refine st (ev_fieldAddr (b := _) Try.underlying52 (f := _) rfl ty3 (by decide) rfl) rfl rfl rfl ?_
  refine st_store1 0 ty3 rfl rfl rfl rfl (show 1 < 2 from by decide) rfl ?_
  refine at_heq (i := 0) (v' := .blk (b) (.cells ([qv, .int .i64 ((came + 1 : Nat) : Int)]).toArray 52)) rfl rfl ?_
  refine op_nil ?_
  refine ax_then ?_
  refine At.regs (L' := [(0, _), (3, _), (4, _)]) (.cons rfl (.cons rfl (.cons rfl (.nil _)))) ?_
  refine cd_seq ?_
  refine at_freeze_blk (h := 3) (H' := [(0, _), (1, _)]) 3 rfl (.cons rfl (.cons rfl (.nil _))) rfl ?_
  refine at_rows_nil 200 ?_
  refine cd_mixp [(3, .mem b3 0 [.int .i64 id, dv])] hmix ?_
  refine mxp (i := 0) rfl (by decide +kernel) (by decide +kernel) (by decide +kernel) rfl (fun w0 => ev_move rfl) rfl rfl (fun w sw => sw.cf (.cons rfl (.nil _))) ?_
  refine mxp (i := 1) rfl (by decide +kernel) (by decide +kernel) (by decide +kernel) rfl (fun w0 => ev_nilCheck rfl) rfl rfl (fun w sw => sw.cf (.cons rfl (.nil _))) ?_
  refine mxp (i := 2) rfl (by decide +kernel) (by decide +kernel) (by decide +kernel) rfl (fun w0 => ev_fieldAddr (b := _) Try.underlying52 (f := _) rfl ty50 (by decide) rfl) rfl rfl (fun w sw => sw.cf (.cons rfl (.nil _))) ?_
  refine mxp (i := 3) rfl (by decide +kernel) (by decide +kernel) (by decide +kernel) rfl (fun w0 => ev_mkif Try.underlying54 rfl rfl) rfl rfl (fun w sw => sw.cf (.cons rfl (.nil _))) ?_
  refine mxp (i := 4) rfl (by decide +kernel) (by decide +kernel) (by decide +kernel) rfl (fun w0 => ld_mem_all (h := 3) ty29 rfl rfl rfl rfl) rfl rfl (fun w sw => sw.cf (.cons rfl (.nil _))) ?_
  refine mxp (i := 6) rfl (by decide +kernel) (by decide +kernel) (by decide +kernel) rfl (fun w0 => ev_move rfl) rfl rfl (fun w sw => sw.cf (.cons rfl (.nil _))) ?_
  refine mxp (i := 7) rfl (by decide +kernel) (by decide +kernel) (by decide +kernel) rfl (fun w0 => ev_nilCheck rfl) rfl rfl (fun w sw => sw.cf (.cons rfl (.nil _))) ?_
  refine mxp (i := 8) rfl (by decide +kernel) (by decide +kernel) (by decide +kernel) rfl (fun w0 => ev_fieldAddr (b := _) Try.underlying52 (f := _) rfl ty3 (by decide) rfl) rfl rfl (fun w sw => sw.cf (.cons rfl (.nil _))) ?_
  refine mxp_two (i := 5) (j := 9) (by decide +kernel) (fun w sw => sw.cf (.cons rfl (.nil _))) ?_ ?_
  ·
    refine wo (i := 5) rfl ?_
    refine st_call has18 rfl (fun w1 sw => rn 43 (copied_any id dv data w1 (by omega) (sw.sl_rd (h := 2) rfl))) nil_all rfl rfl (fun v43 _ => ?_)
    refine at_own_shape (h := 43) rfl (fun hs43 => ?_)
    refine at_rows_own (h := 43) (i := 200) (H' := [(0, _), (1, _)]) rfl rfl (.cons rfl (.cons rfl (.nil _))) rfl (fun b' hb' => by rcases List.mem_cons.1 hb' with rfl | hb'; exact ⟨0, _, rfl, by simp [Ent.ids]⟩; exact ⟨1, _, rfl, hb'⟩) (fun hf43 => ?_)
    refine op_nil ?_
    refine ax_then ?_
    refine mxp_one (i := 9) (by decide +kernel) (fun w sw => sw.cf (.cons rfl (.nil _))) ?_
    refine wo (i := 9) rfl ?_
    refine st (ld_blk1 (h := 0) ty3 rfl rfl rfl rfl) rfl rfl rfl ?_
    refine op_nil ?_
    refine ax_then ?_
    refine mxp (i := 10) rfl (by decide +kernel) (by decide +kernel) (by decide +kernel) rfl (fun w0 => ev_build_struct ty57 rfl pl57 rfl ((fill_put (i := 0) (off := 0) (n := 2) (vs := [.int .i64 id, v43]) rfl rfl rfl (Nat.le_of_ble_eq_true rfl)).trans ((fill_put (i := 1) (off := 2) (n := 1) (vs := [.int .i64 ((came + 1 : Nat) : Int)]) rfl rfl rfl (Nat.le_of_ble_eq_true rfl)).trans fill_nil))) rfl rfl (fun w sw => sw.cf (.cons rfl (.nil _))) ?_
    refine at_eq (i := 48) (v' := .agg (List.toArray [.int .i64 (⟨id, v43, data, ((came + 1 : Nat) : Int)⟩ : Bs.W).id, (⟨id, v43, data, ((came + 1 : Nat) : Int)⟩ : Bs.W).dv, .int .i64 (⟨id, v43, data, ((came + 1 : Nat) : Int)⟩ : Bs.W).came])) rfl rfl ?_
    refine mxp (i := 11) rfl (by decide +kernel) (by decide +kernel) (by decide +kernel) rfl (fun w0 => ev_mkif Try.underlying57 rfl rfl) rfl rfl (fun w sw => sw.cf (.cons rfl (.nil _))) ?_
    refine mxp_one (i := 12) (by decide +kernel) (fun w sw => sw.cf (.cons rfl (.nil _))) ?_
    refine wo (i := 12) rfl ?_
    refine st_call has17 rfl (fun w1 sw => hpush_any b qv (.int .i64 ((came + 1 : Nat) : Int)) l (⟨id, v43, data, ((came + 1 : Nat) : Int)⟩ : Bs.W) w1 hs43.2 hll ho (sw.blk_eq (h := 0) rfl) (sw.hold 1 _ rfl) (sw.apart 0 _ 1 _ rfl rfl (by decide) _ (by simp [Ent.ids]))) (mod_two rfl rfl) rfl rfl (fun v50 _ => ?_)
    refine op_nil ?_
    refine ax_then ?_
    refine mxp_done (by decide +kernel) (fun w sw => sw.cf (.cons rfl (.nil _))) ?_
    refine ax_then ?_
    refine At.regs (L' := [(4, _)]) (.cons rfl (.nil _)) ?_
    refine cd_seq ?_
    refine cd_region ?_
    refine st (ev_assign rfl) rfl rfl rfl ?_
    refine op_nil ?_
    refine ax_then ?_
    refine At.regs (L' := [(4, _)]) (.cons rfl (.nil _)) ?_
    refine cd_ret ?_
    refine rt_tmp (.inl rfl) Try.results8 rfl ?_
    exact fun w1 sw => ⟨(v50, v43), hs43.2, rfl, sw.gives (N := [(0, _), (1, _)]) (.cons rfl (.cons rfl (.nil _))), (fun y hy => ⟨sw.rd 200 _ rfl y hy, by rw [List.mem_singleton.1 hy]; exact hf43⟩), fun h e hh b' hb' => by
      rcases lk_two hh with ⟨rfl, rfl⟩ | ⟨rfl, _, rfl⟩
      · exact sw.off 200 _ 0 _ rfl rfl b' hb'
      · exact sw.off 200 _ 1 _ rfl rfl b' hb'⟩
  ·
    refine wo (i := 9) rfl ?_
    refine st (ld_blk1 (h := 0) ty3 rfl rfl rfl rfl) rfl rfl rfl ?_
    refine op_nil ?_
    refine ax_then ?_
    refine mxp_one (i := 5) (by decide +kernel) (fun w sw => sw.cf (.cons rfl (.nil _))) ?_
    refine wo (i := 5) rfl ?_
    refine st_call has18 rfl (fun w1 sw => rn 43 (copied_any id dv data w1 (by omega) (sw.sl_rd (h := 2) rfl))) nil_all rfl rfl (fun v43 _ => ?_)
    refine at_own_shape (h := 43) rfl (fun hs43 => ?_)
    refine at_rows_own (h := 43) (i := 200) (H' := [(0, _), (1, _)]) rfl rfl (.cons rfl (.cons rfl (.nil _))) rfl (fun b' hb' => by rcases List.mem_cons.1 hb' with rfl | hb'; exact ⟨0, _, rfl, by simp [Ent.ids]⟩; exact ⟨1, _, rfl, hb'⟩) (fun hf43 => ?_)
    refine op_nil ?_
    refine ax_then ?_
    refine mxp (i := 10) rfl (by decide +kernel) (by decide +kernel) (by decide +kernel) rfl (fun w0 => ev_build_struct ty57 rfl pl57 rfl ((fill_put (i := 0) (off := 0) (n := 2) (vs := [.int .i64 id, v43]) rfl rfl rfl (Nat.le_of_ble_eq_true rfl)).trans ((fill_put (i := 1) (off := 2) (n := 1) (vs := [.int .i64 ((came + 1 : Nat) : Int)]) rfl rfl rfl (Nat.le_of_ble_eq_true rfl)).trans fill_nil))) rfl rfl (fun w sw => sw.cf (.cons rfl (.nil _))) ?_
    refine at_eq (i := 48) (v' := .agg (List.toArray [.int .i64 (⟨id, v43, data, ((came + 1 : Nat) : Int)⟩ : Bs.W).id, (⟨id, v43, data, ((came + 1 : Nat) : Int)⟩ : Bs.W).dv, .int .i64 (⟨id, v43, data, ((came + 1 : Nat) : Int)⟩ : Bs.W).came])) rfl rfl ?_
    refine mxp (i := 11) rfl (by decide +kernel) (by decide +kernel) (by decide +kernel) rfl (fun w0 => ev_mkif Try.underlying57 rfl rfl) rfl rfl (fun w sw => sw.cf (.cons rfl (.nil _))) ?_
    refine mxp_one (i := 12) (by decide +kernel) (fun w sw => sw.cf (.cons rfl (.nil _))) ?_
    refine wo (i := 12) rfl ?_
    refine st_call has17 rfl (fun w1 sw => hpush_any b qv (.int .i64 ((came + 1 : Nat) : Int)) l (⟨id, v43, data, ((came + 1 : Nat) : Int)⟩ : Bs.W) w1 hs43.2 hll ho (sw.blk_eq (h := 0) rfl) (sw.hold 1 _ rfl) (sw.apart 0 _ 1 _ rfl rfl (by decide) _ (by simp [Ent.ids]))) (mod_two rfl rfl) rfl rfl (fun v50 _ => ?_)
    refine op_nil ?_
    refine ax_then ?_
    refine mxp_done (by decide +kernel) (fun w sw => sw.cf (.cons rfl (.nil _))) ?_
    refine ax_then ?_
    refine At.regs (L' := [(4, _)]) (.cons rfl (.nil _)) ?_
    refine cd_seq ?_
    refine cd_region ?_
    refine st (ev_assign rfl) rfl rfl rfl ?_
    refine op_nil ?_
    refine ax_then ?_
    refine At.regs (L' := [(4, _)]) (.cons rfl (.nil _)) ?_
    refine cd_ret ?_
    refine rt_tmp (.inl rfl) Try.results8 rfl ?_
    exact fun w1 sw => ⟨(v50, v43), hs43.2, rfl, sw.gives (N := [(0, _), (1, _)]) (.cons rfl (.cons rfl (.nil _))), (fun y hy => ⟨sw.rd 200 _ rfl y hy, by rw [List.mem_singleton.1 hy]; exact hf43⟩), fun h e hh b' hb' => by
      rcases lk_two hh with ⟨rfl, rfl⟩ | ⟨rfl, _, rfl⟩
      · exact sw.off 200 _ 0 _ rfl rfl b' hb'
      · exact sw.off 200 _ 1 _ rfl rfl b' hb'⟩
end Go.Proofs.Ytfddplpljjlgiaa

namespace Go.Proofs.Ytfddplpljjlgiaa.Bs
open Go Fw Go.Proofs.Ytfddplpljjlgiaa
theorem known2 (v v' : Value) : upS ([(⟨5, v, [], 1⟩ : W)] ++ [⟨3, v', [], 2⟩]) 1 = [⟨3, v', [], 2⟩, ⟨5, v, [], 1⟩] := by
  rw [upS_step (by decide) (.inl (by show (3 : Int) < 5; decide)), upS_stop (.inl rfl)]
  rfl
theorem known3 (v v' : Value) : downS (swapS [(⟨3, v', [], 2⟩ : W), ⟨5, v, [], 1⟩] 0 ([(⟨3, v', [], 2⟩ : W), ⟨5, v, [], 1⟩].length - 1)) 0 ([(⟨3, v', [], 2⟩ : W), ⟨5, v, [], 1⟩].length - 1) = [⟨5, v, [], 1⟩, ⟨3, v', [], 2⟩] := by
  show downS (swapS _ 0 1) 0 1 = _
  rw [downS_stop (.inl (by decide))]
  rfl
end Go.Proofs.Ytfddplpljjlgiaa.Bs

namespace Go.Proofs.Ytfddplpljjlgiaa
open Go Go.RowKit Fw
open Bs
set_option linter.unusedVariables false
set_option linter.unusedSimpArgs false
set_option maxRecDepth 20000 in
set_option maxHeartbeats 1000000 in
theorem new_any (w : World) : Calls Try.prog 7 #[] w (Post (ι := Nat) w [] (fun _ => True) (fun x => .pointer (some ⟨x, 0, none⟩)) (fun x => [(0, .blk (x) (.cells ([.slice none 0 0, .int .i64 ((0 : Nat) : Int)]).toArray 52)), (1, .own (.slice none 0 0) 57 3 (Bs.wflat ([])))])) := by
  refine calls_at (vs := []) (X := []) (H := []) (F := []) 3 Try.func7 rfl rfl rfl (Sat.start0 w) ?_
  refine cd_seq ?_
  refine cd_region ?_
  refine st (ev_assign rfl) rfl rfl rfl ?_
  refine op_nil ?_
  refine ax_then ?_
  refine At.regs (L' := [(0, _)]) (.cons rfl (.nil _)) ?_
  refine cd_seq ?_
  refine cd_region ?_
  refine st (ev_build_struct ty52 rfl pl52 rfl rfl) rfl rfl rfl ?_
  refine st_box (h := 2) rfl rfl rfl rfl (fun b2 => ?_)
  refine at_own_nil 1 57 3 ?_
  refine at_heq (i := 1) (v' := .own (.slice none 0 0) 57 3 (Bs.wflat ([]))) rfl rfl ?_
  refine st (ev_assign rfl) rfl rfl rfl ?_
  refine op_nil ?_
  refine ax_then ?_
  refine At.regs (L' := [(0, _)]) (.cons rfl (.nil _)) ?_
  refine cd_ret ?_
  refine rt_tmp (.inl rfl) Try.results7 rfl ?_
  exact fun w1 sw => ⟨b2, trivial, rfl, (sw.gives (N := [(2, _), (1, _)]) (.cons rfl (.cons rfl (.nil _)))).rn2 (by decide) 0 1⟩
set_option maxRecDepth 20000 in
set_option maxHeartbeats 2000000 in
theorem next_ok (b : Nat) (qv : Value) (l : List Bs.W) (came : Nat) (w : World) (hpos : 0 < l.length) (hll : l.length ≤ 100000) (ho : ∀ x, x ∈ l → x.dv.oneCell' = true) (hb : w.heap[b]? = some (.cells (List.toArray [qv, .int .i64 (came : Nat)]) 52)) (hv : Own w qv 57 3 (Bs.wflat l)) (hbv : b ∉ blkOf qv) : Calls Try.prog 9 #[.pointer (some ⟨b, 0, none⟩)] w (Post (ι := Unit) w (b :: blkOf qv) (fun _ => True) (fun _ => .tuple #[.agg (List.toArray [.int .i64 ((Bs.downS (Bs.swapS l 0 (l.length - 1)) 0 (l.length - 1)).getD (l.length - 1) Bs.w0).id, ((Bs.downS (Bs.swapS l 0 (l.length - 1)) 0 (l.length - 1)).getD (l.length - 1) Bs.w0).dv]), .bool true]) (fun _ => [(0, .blk (b) (.cells ([(cutAt 3 qv 0 (l.length - 1)), .int .i64 (came : Nat)]).toArray 52)), (1, .own ((cutAt 3 qv 0 (l.length - 1))) 57 3 (Bs.wflat ((Bs.downS (Bs.swapS l 0 (l.length - 1)) 0 (l.length - 1)).take (l.length - 1))))])) := by
  have ho2 := Bs.downS_one (Bs.swapS_one ho (i := 0) (k := (l.length - 1)) (by omega) (by omega)) 0 (l.length - 1) (by rw [Bs.swapS_len]; omega)
  have hlast := ho2 _ (Bs.getD_mem (i := (l.length - 1)) (by rw [Bs.downS_len, Bs.swapS_len]; omega))
  refine calls_at (vs := [.pointer (some ⟨b, 0, none⟩)]) (X := b :: blkOf qv) (H := [(0, .blk (b) (.cells ([qv, .int .i64 (came : Nat)]).toArray 52)), (1, .own (qv) 57 3 (Bs.wflat (l)))]) (F := []) 22 Try.func9 rfl rfl rfl (Sat.two 0 1 (by decide) hb hv hbv) ?_
  refine cd_seq ?_
  refine cd_region ?_
  refine st_alloc (h := 2) ty29 rfl rfl rfl (fun b2 => ?_)
  refine st (ev_assign rfl) rfl rfl rfl ?_
  refine op_nil ?_
  refine ax_then ?_
  refine At.regs (L' := [(0, _), (2, _), (3, _)]) (.cons rfl (.cons rfl (.cons rfl (.nil _)))) ?_
  refine cd_seq ?_
  refine cd_seq ?_
  refine cd_region ?_
  refine st (ev_move rfl) rfl rfl rfl ?_
  refine st_callv has10 rfl (fun w1 sw => blen_any b qv (.int .i64 (came : Nat)) l w1 (lies_blk (sw.blk_eq (h := 0) rfl)) (sw.own_rd (h := 1) rfl)) rfl rfl ?_
  refine st (ev_eql rfl rfl) rfl rfl rfl ?_
  refine op_nil ?_
  refine ax_then ?_
  refine At.regs (L' := [(0, _), (2, _), (3, _), (8, _)]) (.cons rfl (.cons rfl (.cons rfl (.cons rfl (.nil _))))) ?_
  refine cd_if_f rfl (by omega) ?_
  refine cd_skip ?_
  refine ax_then ?_
  refine At.regs (L' := [(0, _), (2, _), (3, _)]) (.cons rfl (.cons rfl (.cons rfl (.nil _)))) ?_
  refine cd_seq ?_
  refine cd_region ?_
  refine st (ev_move rfl) rfl rfl rfl ?_
  refine st (ev_nilCheck rfl) rfl rfl rfl ?_
  refine st (ev_fieldAddr (b := _) Try.underlying52 (f := _) rfl ty50 (by decide) rfl) rfl rfl rfl ?_
  refine st (ev_mkif Try.underlying54 rfl rfl) rfl rfl rfl ?_
  refine st_call has19 rfl (fun w1 sw => hpop_any b qv (.int .i64 (came : Nat)) l w1 hpos hll ho (sw.blk_eq (h := 0) rfl) (sw.hold 1 _ rfl) (sw.apart 0 _ 1 _ rfl rfl (by decide) _ (by simp [Ent.ids]))) (mod_two rfl rfl) rfl rfl (fun _ _ => ?_)
  refine st (ev_assert Try.underlying57 rfl rfl) rfl rfl rfl ?_
  refine st (ev_move rfl) rfl rfl rfl ?_
  refine st (ev_extract rfl rfl) rfl rfl rfl ?_
  refine st (ev_extract rfl rfl) rfl rfl rfl ?_
  refine st_alloc (h := 4) ty57 rfl rfl rfl (fun b4 => ?_)
  refine st_store_all 4 ty57 rfl rfl rfl rfl rfl (by intro u0 hu0; simp only [List.mem_cons, List.not_mem_nil, or_false] at hu0; rcases hu0 with rfl | rfl | rfl; rfl; exact hlast; rfl) rfl rfl ?_
  refine st (ev_assign rfl) rfl rfl rfl ?_
  refine op_nil ?_
  refine ax_then ?_
  refine At.regs (L' := [(2, _), (3, _), (4, _), (5, _)]) (.cons rfl (.cons rfl (.cons rfl (.cons rfl (.nil _))))) ?_
  refine cd_seq ?_
  refine cd_region ?_
  refine st (ev_fieldAddr (b := _) Try.underlying57 (f := _) rfl ty29 (by decide) rfl) rfl rfl rfl ?_
  refine st (ld_blk (h := 4) ty29 rfl rfl rfl (Nat.le_of_ble_eq_true rfl)) rfl rfl rfl ?_
  refine at_eq (i := 20) (v' := .agg (List.toArray [.int .i64 ((Bs.downS (Bs.swapS l 0 (l.length - 1)) 0 (l.length - 1)).getD (l.length - 1) Bs.w0).id, ((Bs.downS (Bs.swapS l 0 (l.length - 1)) 0 (l.length - 1)).getD (l.length - 1) Bs.w0).dv])) rfl rfl ?_
  refine st (ev_move rfl) rfl rfl rfl ?_
  refine st_store_all 2 ty29 rfl rfl rfl rfl rfl (by intro u0 hu0; simp only [List.mem_cons, List.not_mem_nil, or_false] at hu0; rcases hu0 with rfl | rfl; rfl; exact hlast) rfl rfl ?_
  refine st (ev_assign rfl) rfl rfl rfl ?_
  refine op_nil ?_
  refine ax_then ?_
  refine At.regs (L' := [(2, _), (3, _)]) (.cons rfl (.cons rfl (.nil _))) ?_
  refine cd_ret ?_
  refine rt_cell_tmp (h0 := 2) (.inl rfl) Try.results9 ty29 rfl rfl rfl rfl rfl ?_
  exact fun w1 sw => ⟨(), trivial, rfl, sw.gives (N := [(0, _), (1, _)]) (.cons rfl (.cons rfl (.nil _)))⟩
theorem rd_nil1 {w : World} : Rd w (.slice none 0 0) 1 (ints .u8 []) := ⟨none, 0, 0, rfl, rfl, Nat.le_refl _, fun _ => rfl, fun x hx => by cases hx⟩
set_option maxRecDepth 20000 in
set_option maxHeartbeats 2000000 in
theorem known14_any (w : World) : Calls Try.prog 11 #[] w (PostV w (.bool true)) := by
  refine calls_at (vs := []) (X := []) (H := []) (F := []) 29 Try.func11 rfl rfl rfl (Sat.start0 w) ?_
  refine cd_seq ?_
  refine cd_region ?_
  refine st (ev_assign rfl) rfl rfl rfl ?_
  refine op_nil ?_
  refine ax_then ?_
  refine At.regs (L' := [(0, _)]) (.cons rfl (.nil _)) ?_
  refine cd_seq ?_
  refine cd_region ?_
  refine st_call has7 rfl (fun w1 sw => new_any w1) nil_all rfl rfl (fun b4 _ => ?_)
  refine st (ev_assign rfl) rfl rfl rfl ?_
  refine op_nil ?_
  refine ax_then ?_
  refine At.regs (L' := [(0, _), (1, _)]) (.cons rfl (.cons rfl (.nil _))) ?_
  refine cd_seq ?_
  refine cd_seq ?_
  refine cd_region ?_
  refine st (ev_move rfl) rfl rfl rfl ?_
  refine st (ev_eql_ptr_nil Try.underlying23 rfl rfl) rfl rfl rfl ?_
  refine op_nil ?_
  refine ax_then ?_
  refine At.regs (L' := [(0, _), (1, _), (6, _)]) (.cons rfl (.cons rfl (.cons rfl (.nil _)))) ?_
  refine cd_false rfl ?_
  refine cd_skip ?_
  refine ax_then ?_
  refine At.regs (L' := [(0, _), (1, _)]) (.cons rfl (.cons rfl (.nil _))) ?_
  refine cd_seq ?_
  refine cd_region ?_
  refine st (ev_move rfl) rfl rfl rfl ?_
  refine st (ev_build_struct ty29 rfl pl29 rfl ((fill_put (i := 0) (off := 0) (n := 1) (vs := [.int .i64 5]) rfl rfl rfl (Nat.le_of_ble_eq_true rfl)).trans fill_nil)) rfl rfl rfl ?_
  refine at_eq (i := 8) (v' := .agg (List.toArray [.int .i64 5, .slice none 0 0])) rfl rfl ?_
  refine st_callRM 209 has8 rfl (fun w1 sw => send_ok b4 (.slice none 0 0) (.slice none 0 0) [] 0 5 [] w1 ⟨by decide, by decide⟩ (by decide) (Nat.le_of_ble_eq_true rfl) (by decide) (Nat.le_of_ble_eq_true rfl) (fun y hy => by cases hy) (sw.blk_eq (h := 0) rfl) (sw.hold 1 _ rfl) (sw.apart 0 _ 1 _ rfl rfl (by decide) _ (by simp [Ent.ids])) rd_nil1 (.inl rfl) (fun _ _ => .inl rfl)) (mod_two rfl rfl) rfl rfl (fun x9 hx9 hf9 => ?_)
  obtain ⟨q9, v9⟩ := x9
  dsimp only at hx9 ⊢
  refine at_heq (i := 1) (v' := .own (q9) 57 3 (Bs.wflat ([(⟨5, v9, [], 1⟩ : Bs.W)]))) rfl (congrArg (fun z => Ent.own q9 57 3 (Bs.wflat z)) (Bs.upS_stop (.inl rfl))) ?_
  refine op_nil ?_
  refine ax_then ?_
  refine At.regs (L' := [(0, _), (1, _)]) (.cons rfl (.cons rfl (.nil _))) ?_
  refine cd_seq ?_
  refine cd_region ?_
  refine st (ev_move rfl) rfl rfl rfl ?_
  refine st (ev_build_struct ty29 rfl pl29 rfl ((fill_put (i := 0) (off := 0) (n := 1) (vs := [.int .i64 3]) rfl rfl rfl (Nat.le_of_ble_eq_true rfl)).trans fill_nil)) rfl rfl rfl ?_
  refine at_eq (i := 11) (v' := .agg (List.toArray [.int .i64 3, .slice none 0 0])) rfl rfl ?_
  refine st_callRM 212 has8 rfl (fun w1 sw => send_ok b4 q9 (.slice none 0 0) [(⟨5, v9, [], 1⟩ : Bs.W)] 1 3 [] w1 ⟨by decide, by decide⟩ (by decide) (Nat.le_of_ble_eq_true rfl) (by decide) (Nat.le_of_ble_eq_true rfl) (fun y hy => by rw [List.mem_singleton.1 hy]; exact hx9) (sw.blk_eq (h := 0) rfl) (sw.hold 1 _ rfl) (sw.apart 0 _ 1 _ rfl rfl (by decide) _ (by simp [Ent.ids])) rd_nil1 (.inl rfl) (fun _ _ => .inl rfl)) (mod_two rfl rfl) rfl rfl (fun x12 hx12 hf12 => ?_)
  obtain ⟨q12, v12⟩ := x12
  dsimp only at hx12 ⊢
  refine at_heq (i := 1) (v' := .own (q12) 57 3 (Bs.wflat ([(⟨3, v12, [], 2⟩ : Bs.W), (⟨5, v9, [], 1⟩ : Bs.W)]))) rfl (congrArg (fun z => Ent.own q12 57 3 (Bs.wflat z)) (Bs.known2 v9 v12)) ?_
  refine op_nil ?_
  refine ax_then ?_
  refine At.regs (L' := [(0, _), (1, _)]) (.cons rfl (.cons rfl (.nil _))) ?_
  refine cd_seq ?_
  refine cd_region ?_
  refine st (ev_move rfl) rfl rfl rfl ?_
  refine st_call has9 rfl (fun w1 sw => next_ok b4 q12 [(⟨3, v12, [], 2⟩ : Bs.W), (⟨5, v9, [], 1⟩ : Bs.W)] 2 w1 (Nat.le_of_ble_eq_true rfl) (Nat.le_of_ble_eq_true rfl) (fun y hy => by simp only [List.mem_cons, List.not_mem_nil, or_false] at hy; rcases hy with rfl | rfl; exact hx12; exact hx9) (sw.blk_eq (h := 0) rfl) (sw.hold 1 _ rfl) (sw.apart 0 _ 1 _ rfl rfl (by decide) _ (by simp [Ent.ids]))) (mod_two rfl rfl) rfl rfl (fun _ _ => ?_)
  refine at_eq (i := 15) (v' := .tuple #[.agg (List.toArray [.int .i64 3, v12]), .bool true]) rfl (by rw [Bs.known3 v9 v12]; rfl) ?_
  refine at_heq (i := 1) (v' := .own ((cutAt 3 q12 0 1)) 57 3 (Bs.wflat ([(⟨5, v9, [], 1⟩ : Bs.W)]))) rfl (by rw [Bs.known3 v9 v12]; rfl) ?_
  refine st (ev_move rfl) rfl rfl rfl ?_
  refine st (ev_extract rfl rfl) rfl rfl rfl ?_
  refine st (ev_extract rfl rfl) rfl rfl rfl ?_
  refine st_alloc (h := 2) ty29 rfl rfl rfl (fun b2 => ?_)
  refine st_store_all 2 ty29 rfl rfl rfl rfl rfl (by intro u0 hu0; simp only [List.mem_cons, List.not_mem_nil, or_false] at hu0; rcases hu0 with rfl | rfl; rfl; exact hx12) rfl rfl ?_
  refine st (ev_assign rfl) rfl rfl rfl ?_
  refine op_nil ?_
  refine ax_then ?_
  refine At.regs (L' := [(0, _), (1, _), (2, _), (3, _)]) (.cons rfl (.cons rfl (.cons rfl (.cons rfl (.nil _))))) ?_
  refine cd_seq ?_
  refine cd_region ?_
  refine st (ev_move rfl) rfl rfl rfl ?_
  refine st (ev_move rfl) rfl rfl rfl ?_
  refine st (ev_fieldAddr (b := _) Try.underlying29 (f := _) rfl ty3 (by decide) rfl) rfl rfl rfl ?_
  refine st (ld_blk1 (h := 2) ty3 rfl rfl rfl rfl) rfl rfl rfl ?_
  refine st (ev_eql rfl rfl) rfl rfl rfl ?_
  refine st (ev_pick_t rfl rfl) rfl rfl rfl ?_
  refine st (ev_move rfl) rfl rfl rfl ?_
  refine at_eq (i := 24) (v' := .bool true) rfl (by rw [decide_eq_true rfl]) ?_
  refine st (ev_move rfl) rfl rfl rfl ?_
  refine st_callv has10 rfl (fun w1 sw => blen_any b4 (cutAt 3 q12 0 1) (.int .i64 ((2 : Nat) : Int)) [(⟨5, v9, [], 1⟩ : Bs.W)] w1 (lies_blk (sw.blk_eq (h := 0) rfl)) (sw.own_rd (h := 1) rfl)) rfl rfl ?_
  refine st (ev_eql rfl rfl) rfl rfl rfl ?_
  refine st (ev_pick_t rfl rfl) rfl rfl rfl ?_
  refine st (ev_assign rfl) rfl rfl rfl ?_
  refine op_nil ?_
  refine ax_then ?_
  refine At.regs (L' := [(0, _)]) (.cons rfl (.nil _)) ?_
  refine cd_ret ?_
  refine rt_tmp (.inl rfl) Try.results11 rfl ?_
  exact fun w1 sw => ⟨rfl, sw.gives (.nil _)⟩
end Go.Proofs.Ytfddplpljjlgiaa

namespace Go.Proofs.Ytfddplpljjlgiaa
open Go Go.RowKit Fw
open Bs
set_option linter.unusedVariables false
set_option linter.unusedSimpArgs false
set_option maxRecDepth 20000 in
set_option maxHeartbeats 1000000 in
theorem send_nil (id : Int) (dv : Value) (w : World) (hd : dv.oneCell' = true) : Calls Try.prog 8 #[.pointer none, .agg (List.toArray [.int .i64 id, dv])] w (PostV w (.int .i64 1)) := by
  refine calls_at (vs := [.pointer none, .agg (List.toArray [.int .i64 id, dv])]) (X := []) (H := []) (F := []) 51 Try.func8 rfl rfl rfl (Sat.start0 w) ?_
  refine cd_seq ?_
  refine cd_region ?_
  refine st_box (h := 3) rfl rfl rfl rfl (fun b3 => ?_)
  refine st (ev_assign rfl) rfl rfl rfl ?_
  refine op_nil ?_
  refine ax_then ?_
  refine At.regs (L' := [(0, _), (3, _), (4, _)]) (.cons rfl (.cons rfl (.cons rfl (.nil _)))) ?_
  refine cd_seq ?_
  refine cd_block ?_
  refine cd_seq ?_
  refine cd_region ?_
  refine st (ev_move rfl) rfl rfl rfl ?_
  refine st (ev_eql_ptr_nil Try.underlying23 rfl rfl) rfl rfl rfl ?_
  refine st (ev_move rfl) rfl rfl rfl ?_
  refine st_skip rfl rfl rfl ?_
  refine st_skip rfl rfl rfl ?_
  refine st_skip rfl rfl rfl ?_
  refine st (ev_pick_t rfl rfl) rfl rfl rfl ?_
  refine st (ev_move rfl) rfl rfl rfl ?_
  refine st_skip rfl rfl rfl ?_
  refine st_skip rfl rfl rfl ?_
  refine st_skip rfl rfl rfl ?_
  refine st (ev_pick_t rfl rfl) rfl rfl rfl ?_
  refine st (ev_move rfl) rfl rfl rfl ?_
  refine st_skip rfl rfl rfl ?_
  refine st_skip rfl rfl rfl ?_
  refine st_skip rfl rfl rfl ?_
  refine st_skip rfl rfl rfl ?_
  refine st (ev_pick_t rfl rfl) rfl rfl rfl ?_
  refine st (ev_assign rfl) rfl rfl rfl ?_
  refine op_nil ?_
  refine ax_then ?_
  refine At.regs (L' := [(0, _), (3, _), (4, _), (5, _)]) (.cons rfl (.cons rfl (.cons rfl (.cons rfl (.nil _))))) ?_
  refine cd_true rfl ?_
  refine cd_seq ?_
  refine cd_region ?_
  refine st (ev_assign rfl) rfl rfl rfl ?_
  refine op_nil ?_
  refine ax_then ?_
  refine At.regs (L' := [(0, _), (3, _), (4, _)]) (.cons rfl (.cons rfl (.cons rfl (.nil _)))) ?_
  refine cd_ret ?_
  refine ax_block_ret ?_
  refine ax_then_ret ?_
  refine rt_tmp (.inl rfl) Try.results8 rfl ?_
  exact fun w1 sw => ⟨rfl, sw.gives (.nil _)⟩
set_option maxRecDepth 20000 in
set_option maxHeartbeats 1000000 in
theorem next_nil (w : World) : Calls Try.prog 9 #[.pointer none] w (PostV w (.tuple #[.agg (List.toArray [.int .i64 0, .slice none 0 0]), .bool false])) := by
  refine calls_at (vs := [.pointer none]) (X := []) (H := []) (F := []) 22 Try.func9 rfl rfl rfl (Sat.start0 w) ?_
  refine cd_seq ?_
  refine cd_region ?_
  refine st_alloc (h := 2) ty29 rfl rfl rfl (fun b2 => ?_)
  refine st (ev_assign rfl) rfl rfl rfl ?_
  refine op_nil ?_
  refine ax_then ?_
  refine At.regs (L' := [(0, _), (2, _), (3, _)]) (.cons rfl (.cons rfl (.cons rfl (.nil _)))) ?_
  refine cd_seq ?_
  refine cd_seq ?_
  refine cd_region ?_
  refine st (ev_move rfl) rfl rfl rfl ?_
  refine st_callv has10 rfl (fun w1 sw => blen_nil w1) rfl rfl ?_
  refine st (ev_eql rfl rfl) rfl rfl rfl ?_
  refine op_nil ?_
  refine ax_then ?_
  refine At.regs (L' := [(0, _), (2, _), (3, _), (8, _)]) (.cons rfl (.cons rfl (.cons rfl (.cons rfl (.nil _))))) ?_
  refine cd_if_t rfl (by decide) ?_
  refine cd_seq ?_
  refine cd_region ?_
  refine st (ev_build_struct ty29 rfl pl29 rfl rfl) rfl rfl rfl ?_
  refine st_store_all 2 ty29 rfl rfl rfl rfl (by first | omega | (simp only [List.length_append, List.length_cons, List.length_nil, List.length_set, List.length_replicate, List.length_take, List.length_drop, ints_length, wr_length] <;> omega) | rfl) (by first | (intro u hu; simp at hu; rcases hu with rfl | rfl <;> rfl) | (simp [Value.oneCell'])) (by first | omega | (simp only [List.length_append, List.length_cons, List.length_nil, List.length_set, List.length_replicate, List.length_take, List.length_drop, ints_length, wr_length] <;> omega) | rfl) rfl ?_
  refine st (ev_assign rfl) rfl rfl rfl ?_
  refine op_nil ?_
  refine ax_then ?_
  refine At.regs (L' := [(0, _), (2, _), (3, _)]) (.cons rfl (.cons rfl (.cons rfl (.nil _)))) ?_
  refine cd_ret ?_
  refine ax_then_ret ?_
  refine rt_cell_tmp (h0 := 2) (.inl rfl) Try.results9 ty29 rfl rfl rfl rfl rfl ?_
  exact fun w1 sw => ⟨rfl, sw.gives (.nil _)⟩
set_option maxRecDepth 20000 in
set_option maxHeartbeats 1000000 in
theorem list_nil (w : World) : Calls Try.prog 16 #[.pointer none] w (PostV w (.slice none 0 0)) := by
  refine calls_at (vs := [.pointer none]) (X := []) (H := []) (F := []) 30 Try.func16 rfl rfl rfl (Sat.start0 w) ?_
  refine cd_seq ?_
  refine cd_region ?_
  refine st (ev_assign rfl) rfl rfl rfl ?_
  refine at_own_nil 2 29 2 ?_
  refine op_nil ?_
  refine ax_then ?_
  refine At.regs (L' := [(0, _), (2, _)]) (.cons rfl (.cons rfl (.nil _))) ?_
  refine cd_seq ?_
  refine cd_seq ?_
  refine cd_region ?_
  refine st (ev_move rfl) rfl rfl rfl ?_
  refine st (ev_eql_ptr_nil Try.underlying23 rfl rfl) rfl rfl rfl ?_
  refine op_nil ?_
  refine ax_then ?_
  refine At.regs (L' := [(0, _), (2, _), (8, _)]) (.cons rfl (.cons rfl (.cons rfl (.nil _)))) ?_
  refine cd_true rfl ?_
  refine cd_seq ?_
  refine cd_region ?_
  refine st (ev_assign rfl) rfl rfl rfl ?_
  refine at_own_nil 2 29 2 ?_
  refine op_nil ?_
  refine ax_then ?_
  refine At.regs (L' := [(0, _), (2, _)]) (.cons rfl (.cons rfl (.nil _))) ?_
  refine cd_ret ?_
  refine ax_then_ret ?_
  refine rt_tmp (.inl rfl) Try.results16 rfl ?_
  exact fun w1 sw => ⟨rfl, sw.gives (.nil _)⟩
set_option maxRecDepth 20000 in
set_option maxHeartbeats 1000000 in
theorem ins1_any (qv f : Value) (n : Nat) (w : World) (hn : n ≤ 1) : Calls Try.prog 30 #[qv, .int .i64 0, .int .i64 (n : Nat), f] w (PostV w (.tuple #[])) := by
  refine calls_at (vs := [qv, .int .i64 0, .int .i64 (n : Nat), f]) (X := []) (H := []) (F := []) 53 Try.func30 rfl rfl rfl (Sat.start0 w) ?_
  refine cd_seq ?_
  refine cd_region ?_
  refine st (ev_move rfl) rfl rfl rfl ?_
  refine st (ev_add64 rfl rfl (by omega) (by omega)) rfl rfl rfl ?_
  refine st (ev_assign rfl) rfl rfl rfl ?_
  refine op_nil ?_
  refine ax_then ?_
  refine At.regs (L' := [(0, _), (1, _), (2, _), (3, _), (8, _)]) (.cons rfl (.cons rfl (.cons rfl (.cons rfl (.cons rfl (.nil _)))))) ?_
  refine cd_block ?_
  refine cd_loop (ι := Unit) (fun u => True) (fun u => 0)
      (fun u => [(2, .int .i64 (n : Nat)), (8, .int .i64 1)])
      (fun u => [])
      (fun u => [])
      () (trivial) (.cons rfl (.cons rfl (.nil _))) (.nil _) (.nil _) (fun u hi => ?_)
  refine cd_seq ?_
  refine cd_seq ?_
  refine cd_region ?_
  refine st (ev_move rfl) rfl rfl rfl ?_
  refine st (ev_move rfl) rfl rfl rfl ?_
  refine st (ev_lss rfl rfl) rfl rfl rfl ?_
  refine op_nil ?_
  refine ax_then ?_
  refine At.regs (L' := [(2, _), (8, _), (12, _), (13, _), (14, _)]) (.cons rfl (.cons rfl (.cons rfl (.cons rfl (.cons rfl (.nil _)))))) ?_
  refine cd_if_f rfl (by omega) ?_
  refine cd_exit ?_
  refine ax_then_exit ?_
  refine ax_then_exit ?_
  refine ax_block_hit ?_
  refine rt_none (.inr rfl) Try.results30 ?_
  exact fun w1 sw => ⟨rfl, sw.gives (.nil _)⟩
set_option maxRecDepth 20000 in
set_option maxHeartbeats 1000000 in
theorem pdq1_any (qv f : Value) (n : Nat) (k : Int) (w : World) (hn : n ≤ 1) : Calls Try.prog 28 #[qv, .int .i64 0, .int .i64 (n : Nat), .int .i64 k, f] w (PostV w (.tuple #[])) := by
  refine calls_at (vs := [qv, .int .i64 0, .int .i64 (n : Nat), .int .i64 k, f]) (X := []) (H := []) (F := []) 148 Try.func28 rfl rfl rfl (Sat.start0 w) ?_
  refine cd_seq ?_
  refine cd_region ?_
  refine st (ev_assign rfl) rfl rfl rfl ?_
  refine op_nil ?_
  refine ax_then ?_
  refine At.regs (L' := [(0, _), (1, _), (2, _), (3, _), (4, _), (10, _)]) (.cons rfl (.cons rfl (.cons rfl (.cons rfl (.cons rfl (.cons rfl (.nil _))))))) ?_
  refine cd_seq ?_
  refine cd_region ?_
  refine st (ev_assign rfl) rfl rfl rfl ?_
  refine op_nil ?_
  refine ax_then ?_
  refine At.regs (L' := [(0, _), (1, _), (2, _), (3, _), (4, _), (10, _), (11, _)]) (.cons rfl (.cons rfl (.cons rfl (.cons rfl (.cons rfl (.cons rfl (.cons rfl (.nil _)))))))) ?_
  refine cd_block ?_
  refine cd_loop (ι := Unit) (fun u => True) (fun u => 0)
      (fun u => [(0, qv), (1, .int .i64 0), (2, .int .i64 (n : Nat)), (3, .int .i64 k), (4, f)])
      (fun u => [])
      (fun u => [])
      () (trivial) (.cons rfl (.cons rfl (.cons rfl (.cons rfl (.cons rfl (.nil _)))))) (.nil _) (.nil _) (fun u hi => ?_)
  refine cd_block ?_
  refine cd_seq ?_
  refine cd_region ?_
  refine st (ev_move rfl) rfl rfl rfl ?_
  refine st (ev_move rfl) rfl rfl rfl ?_
  refine st (ev_sub64 rfl rfl (by omega) (by omega)) rfl rfl rfl ?_
  refine st (ev_assign rfl) rfl rfl rfl ?_
  refine op_nil ?_
  refine ax_then ?_
  refine At.regs (L' := [(0, _), (1, _), (2, _), (3, _), (4, _), (12, _), (21, _), (22, _), (23, _)]) (.cons rfl (.cons rfl (.cons rfl (.cons rfl (.cons rfl (.cons rfl (.cons rfl (.cons rfl (.cons rfl (.nil _)))))))))) ?_
  refine cd_seq ?_
  refine cd_seq ?_
  refine cd_region ?_
  refine st (ev_move rfl) rfl rfl rfl ?_
  refine st (ev_leq rfl rfl) rfl rfl rfl ?_
  refine op_nil ?_
  refine ax_then ?_
  refine At.regs (L' := [(0, _), (1, _), (2, _), (3, _), (4, _), (12, _), (21, _), (22, _), (23, _), (24, _), (25, _)]) (.cons rfl (.cons rfl (.cons rfl (.cons rfl (.cons rfl (.cons rfl (.cons rfl (.cons rfl (.cons rfl (.cons rfl (.cons rfl (.nil _)))))))))))) ?_
  refine cd_if_t rfl (by omega) ?_
  refine cd_seq ?_
  refine cd_region ?_
  refine st (ev_move rfl) rfl rfl rfl ?_
  refine st (ev_move rfl) rfl rfl rfl ?_
  refine st (ev_move rfl) rfl rfl rfl ?_
  refine st (ev_move rfl) rfl rfl rfl ?_
  refine st_callv has30 rfl (fun w1 sw => ins1_any qv f n w1 hn) rfl rfl ?_
  refine op_nil ?_
  refine ax_then ?_
  refine At.regs (L' := [(0, _), (1, _), (2, _), (3, _), (4, _), (12, _), (21, _), (22, _), (23, _), (24, _), (25, _), (26, _), (27, _), (28, _), (29, _)]) (.cons rfl (.cons rfl (.cons rfl (.cons rfl (.cons rfl (.cons rfl (.cons rfl (.cons rfl (.cons rfl (.cons rfl (.cons rfl (.cons rfl (.cons rfl (.cons rfl (.cons rfl (.nil _)))))))))))))))) ?_
  refine cd_ret ?_
  refine ax_then_ret ?_
  refine ax_block_ret ?_
  refine ax_then_ret ?_
  refine ax_block_ret ?_
  refine rt_none (.inl rfl) Try.results28 ?_
  exact fun w1 sw => ⟨rfl, sw.gives (.nil _)⟩
end Go.Proofs.Ytfddplpljjlgiaa

namespace Go.Proofs.Ytfddplpljjlgiaa
open Go Go.RowKit Fw
open Bs
set_option linter.unusedVariables false
set_option linter.unusedSimpArgs false
def len8 (n : Nat) : Nat := if n = 0 then 0 else Nat.log2 n + 1
theorem len8_at {s : ByteArray} (h : ((List.range 256).all fun n => s[n]? == some (UInt8.ofNat (len8 n))) = true) {n : Nat} (hn : n < 256) : s[n]? = some (UInt8.ofNat (len8 n)) := by
  have := List.all_eq_true.1 h n (List.mem_range.2 hn)
  exact eq_of_beq this
theorem len8_le : ∀ n, n < 256 → len8 n ≤ 8 := by decide +kernel
set_option maxRecDepth 20000 in
set_option maxHeartbeats 1000000 in
theorem len64_any (n : Nat) (w : World) (hn : n < 256) : Calls Try.prog 39 #[.int .u64 (n : Int)] w (PostV w (.int .i64 (len8 n : Int))) := by
  have hl8 := len8_le n hn
  have hw : IntKind.u8.wrap (n : Int) = (n : Int) := by simp [IntKind.wrap, IntKind.bits, IntKind.signed]; omega
  have hub : ((UInt8.ofNat (len8 n)).toNat : Int) = (len8 n : Int) := by rw [UInt8.toNat_ofNat']; omega
  refine calls_at (vs := [.int .u64 (n : Int)]) (X := []) (H := []) (F := []) 25 Try.func39 rfl rfl rfl (Sat.start0 w) ?_
  refine cd_seq ?_
  refine cd_region ?_
  refine st (ev_assign rfl) rfl rfl rfl ?_
  refine op_nil ?_
  refine ax_then ?_
  refine At.regs (L' := [(0, _), (2, _)]) (.cons rfl (.cons rfl (.nil _))) ?_
  refine cd_seq ?_
  refine cd_seq ?_
  refine cd_region ?_
  refine st (ev_move rfl) rfl rfl rfl ?_
  refine st (ev_geq rfl rfl) rfl rfl rfl ?_
  refine op_nil ?_
  refine ax_then ?_
  refine At.regs (L' := [(0, _), (2, _), (4, _)]) (.cons rfl (.cons rfl (.cons rfl (.nil _)))) ?_
  refine cd_if_f rfl (by omega) ?_
  refine cd_skip ?_
  refine ax_then ?_
  refine At.regs (L' := [(0, _), (2, _)]) (.cons rfl (.cons rfl (.nil _))) ?_
  refine cd_seq ?_
  refine cd_seq ?_
  refine cd_region ?_
  refine st (ev_move rfl) rfl rfl rfl ?_
  refine st (ev_geq rfl rfl) rfl rfl rfl ?_
  refine op_nil ?_
  refine ax_then ?_
  refine At.regs (L' := [(0, _), (2, _), (8, _)]) (.cons rfl (.cons rfl (.cons rfl (.nil _)))) ?_
  refine cd_if_f rfl (by omega) ?_
  refine cd_skip ?_
  refine ax_then ?_
  refine At.regs (L' := [(0, _), (2, _)]) (.cons rfl (.cons rfl (.nil _))) ?_
  refine cd_seq ?_
  refine cd_seq ?_
  refine cd_region ?_
  refine st (ev_move rfl) rfl rfl rfl ?_
  refine st (ev_geq rfl rfl) rfl rfl rfl ?_
  refine op_nil ?_
  refine ax_then ?_
  refine At.regs (L' := [(0, _), (2, _), (14, _)]) (.cons rfl (.cons rfl (.cons rfl (.nil _)))) ?_
  refine cd_if_f rfl (by omega) ?_
  refine cd_skip ?_
  refine ax_then ?_
  refine At.regs (L' := [(0, _), (2, _)]) (.cons rfl (.cons rfl (.nil _))) ?_
  refine cd_seq ?_
  refine cd_region ?_
  refine st (ev_move rfl) rfl rfl rfl ?_
  refine st (ev_move rfl) rfl rfl rfl ?_
  refine st (ev_conv Try.underlying88 Try.underlying5 rfl) rfl rfl rfl ?_
  refine at_eq (i := 21) (v' := .int .u8 (n : Int)) rfl (by rw [hw]) ?_
  refine st (ev_index_str Try.underlying9 rfl rfl (by omega) (by rw [Int.toNat_natCast]; exact len8_at (by decide +kernel) hn)) rfl rfl rfl ?_
  refine at_eq (i := 22) (v' := .int .u8 (len8 n : Int)) rfl (by rw [hub]) ?_
  refine st (ev_conv64 Try.underlying5 Try.underlying3 rfl (by omega) (by omega)) rfl rfl rfl ?_
  refine st (ev_add64 rfl rfl (by omega) (by omega)) rfl rfl rfl ?_
  refine at_eq (i := 24) (v' := .int .i64 (len8 n : Int)) rfl (by rw [Int.zero_add]) ?_
  refine st (ev_assign rfl) rfl rfl rfl ?_
  refine op_nil ?_
  refine ax_then ?_
  refine At.regs (L' := [(2, _)]) (.cons rfl (.nil _)) ?_
  refine cd_ret ?_
  refine rt_tmp (.inl rfl) Try.results39 rfl ?_
  exact fun w1 sw => ⟨rfl, sw.gives (.nil _)⟩
set_option maxRecDepth 20000 in
set_option maxHeartbeats 1000000 in
theorem len_any (n : Nat) (w : World) (hn : n < 256) : Calls Try.prog 29 #[.int .u64 (n : Int)] w (PostV w (.int .i64 (len8 n : Int))) := by
  refine calls_at (vs := [.int .u64 (n : Int)]) (X := []) (H := []) (F := []) 8 Try.func29 rfl rfl rfl (Sat.start0 w) ?_
  refine cd_seq ?_
  refine cd_region ?_
  refine st (ev_assign rfl) rfl rfl rfl ?_
  refine op_nil ?_
  refine ax_then ?_
  refine At.regs (L' := [(0, _), (2, _)]) (.cons rfl (.cons rfl (.nil _))) ?_
  refine cd_seq ?_
  refine cd_false rfl ?_
  refine cd_skip ?_
  refine ax_then ?_
  refine At.regs (L' := [(0, _), (2, _)]) (.cons rfl (.cons rfl (.nil _))) ?_
  refine cd_seq ?_
  refine cd_region ?_
  refine st (ev_move rfl) rfl rfl rfl ?_
  refine st_callv has39 rfl (fun w1 sw => len64_any n w1 hn) rfl rfl ?_
  refine st (ev_assign rfl) rfl rfl rfl ?_
  refine op_nil ?_
  refine ax_then ?_
  refine At.regs (L' := [(2, _)]) (.cons rfl (.nil _)) ?_
  refine cd_ret ?_
  refine rt_tmp (.inl rfl) Try.results29 rfl ?_
  exact fun w1 sw => ⟨rfl, sw.gives (.nil _)⟩
set_option maxRecDepth 20000 in
set_option maxHeartbeats 1000000 in
theorem sort1_any (qv f : Value) (l : List Bs.W) (w : World) (hl : l.length ≤ 1) (h : Rd w qv 3 (Bs.wflat l)) : Calls Try.prog 22 #[qv, f] w (PostV w (.tuple #[])) := by
  refine calls_at (vs := [qv, f]) (X := []) (H := []) (F := [(20, .sl (qv) 3 (Bs.wflat (l)))]) 14 Try.func22 rfl rfl rfl (Sat.rd0 20 h) ?_
  refine cd_seq ?_
  refine cd_region ?_
  refine st (ev_move rfl) rfl rfl rfl ?_
  refine st (ev_len_rd (h := 20) (n := l.length) Try.underlying50 rfl rfl (Bs.wflat_len l) (by decide)) rfl rfl rfl ?_
  refine st (ev_assign rfl) rfl rfl rfl ?_
  refine op_nil ?_
  refine ax_then ?_
  refine At.regs (L' := [(0, _), (1, _), (4, _)]) (.cons rfl (.cons rfl (.cons rfl (.nil _)))) ?_
  refine cd_region ?_
  refine st (ev_move rfl) rfl rfl rfl ?_
  refine st (ev_move rfl) rfl rfl rfl ?_
  refine st (ev_move rfl) rfl rfl rfl ?_
  refine st (ev_convu64 Try.underlying3 Try.underlying75 rfl (by omega) (by omega)) rfl rfl rfl ?_
  refine st_callv has29 rfl (fun w1 sw => len_any l.length w1 (by omega)) rfl rfl ?_
  refine st (ev_move rfl) rfl rfl rfl ?_
  refine st_callv has28 rfl (fun w1 sw => pdq1_any qv f l.length _ w1 hl) rfl rfl ?_
  refine op_nil ?_
  refine rt_none (.inr rfl) Try.results22 ?_
  exact fun w1 sw => ⟨rfl, sw.gives (.nil _)⟩
set_option maxRecDepth 20000 in
set_option maxHeartbeats 1000000 in
theorem cloneq_some (x : Addr) (n c : Nat) (l : List Bs.W) (w : World) (hl : l.length ≤ 100000) (ho : ∀ x, x ∈ l → x.dv.oneCell' = true) (h : Rd w (.slice (some x) n c) 3 (Bs.wflat l)) : Calls Try.prog 21 #[.slice (some x) n c] w (Post (ι := Value) w [] (fun _ => True) (fun v => v) (fun v => [(0, .own (v) 57 3 (Bs.wflat (l)))])) := by
  refine calls_at (vs := [.slice (some x) n c]) (X := []) (H := []) (F := [(0, .sl (.slice (some x) n c) 3 (Bs.wflat (l)))]) 8 Try.func21 rfl rfl rfl (Sat.rd0 0 h) ?_
  refine cd_seq ?_
  refine cd_region ?_
  refine st (ev_assign rfl) rfl rfl rfl ?_
  refine at_own_nil 2 57 3 ?_
  refine op_nil ?_
  refine ax_then ?_
  refine At.regs (L' := [(0, _), (2, _)]) (.cons rfl (.cons rfl (.nil _))) ?_
  refine cd_seq ?_
  refine cd_seq ?_
  refine cd_region ?_
  refine st (ev_move rfl) rfl rfl rfl ?_
  refine st (ev_eql_slice_nil Try.underlying50 rfl rfl) rfl rfl rfl ?_
  refine op_nil ?_
  refine ax_then ?_
  refine At.regs (L' := [(0, _), (2, _), (4, _)]) (.cons rfl (.cons rfl (.cons rfl (.nil _)))) ?_
  refine cd_false rfl ?_
  refine cd_skip ?_
  refine ax_then ?_
  refine At.regs (L' := [(0, _), (2, _)]) (.cons rfl (.cons rfl (.nil _))) ?_
  refine cd_seq ?_
  refine cd_region ?_
  refine st_buildSlice (h := 5) (cells := []) Try.underlying50 ty57 rfl (by decide) (fill_nil.trans (by simp)) rfl rfl rfl (fun b5 => ?_)
  refine st (ev_move rfl) rfl rfl rfl ?_
  refine st_append (n := 0) (m := l.length) (h := 5) (cs := Bs.wflat l) Try.underlying50 Try.underlying50 ty57 rfl rfl rfl rfl (fun w1 sw => sw.sl_rd (h := 0) rfl) (by decide) rfl (Bs.wflat_len l) (by omega) (by decide) (fun u hu => by obtain ⟨y, hy, hu⟩ := List.mem_flatMap.1 hu; exact Bs.wcells_one (ho y hy) u hu) rfl rfl (fun v7 => ?_)
  refine at_heq (i := 5) (v' := .own (v7) 57 3 (Bs.wflat (l))) rfl (by rw [List.nil_append]) ?_
  refine st (ev_assign rfl) rfl rfl rfl ?_
  refine op_nil ?_
  refine ax_then ?_
  refine At.regs (L' := [(2, _)]) (.cons rfl (.nil _)) ?_
  refine cd_ret ?_
  refine rt_tmp (.inl rfl) Try.results21 rfl ?_
  exact fun w1 sw => ⟨_, trivial, rfl, (sw.gives (N := [(5, _)]) (.cons rfl (.nil _))).rn 0⟩
end Go.Proofs.Ytfddplpljjlgiaa

namespace Go.Proofs.Ytfddplpljjlgiaa.Bs
open Go Fw Go.Proofs.Ytfddplpljjlgiaa
set_option linter.unusedSimpArgs false
set_option linter.unusedVariables false
structure WB where
  val : W
  one : val.dv.oneCell' = true
instance : Inhabited WB := ⟨⟨w0, rfl⟩⟩
def encB (x : WB) : List Value := wcells x.1
def Srt (l : List W) : Prop := l.Pairwise fun x y => ¬ bef y x
def plainB (d : Array WB) : List W := d.toList.map (·.1)
theorem plainB_len (d : Array WB) : (plainB d).length = d.size := by simp [plainB]
theorem plainB_get (d : Array WB) {i : Nat} (h : i < d.size) : (plainB d).getD i w0 = d[i]!.1 := by
  rw [List.getD_eq_getElem?_getD, plainB, List.getElem?_map, Array.getElem?_toList, Array.getElem?_eq_getElem h, getElem!_pos d i h]
  rfl
def packB (l : List W) (ho : ∀ x, x ∈ l → x.dv.oneCell' = true) : Array WB := (l.attach.map fun x => (⟨x.1, ho x.1 x.2⟩ : WB)).toArray
theorem plainB_pack (l : List W) (ho : ∀ x, x ∈ l → x.dv.oneCell' = true) : plainB (packB l ho) = l := by
  have : plainB (packB l ho) = (l.attach.map fun x => (⟨x.1, ho x.1 x.2⟩ : WB)).map (·.1) := rfl
  rw [this, List.map_map]
  exact List.attach_map_subtype_val l
theorem packB_size (l : List W) (ho : ∀ x, x ∈ l → x.dv.oneCell' = true) : (packB l ho).size = l.length := by
  simp [packB]
theorem flatB (d : Array WB) : Go.Sort.flatK encB 3 d = (wflat (plainB d)).toArray := by
  have hl := wflat_len (plainB d)
  rw [plainB_len] at hl
  refine Go.Sort.ext_get! (by simp [hl]) fun t ht => ?_
  have ht' : t < d.size * 3 := by simpa using ht
  have h3 : t / 3 < d.size := by omega
  rw [Go.Sort.get_flatK _ _ _ t ht', encB, ← plainB_get d h3]
  have hg := wflat_get (l := plainB d) (i := t / 3) (by rw [plainB_len]; exact h3)
  rw [← hg]
  have h5 : t < (wflat (plainB d)).length := by omega
  have h6 : t % 3 < (((wflat (plainB d)).drop (t / 3 * 3)).take 3).length := by rw [hg]; show t % 3 < 3; omega
  rw [getElem!_pos (((wflat (plainB d)).drop (t / 3 * 3)).take 3) (t % 3) h6, getElem!_pos (wflat (plainB d)).toArray t (by simpa using h5)]
  simp only [List.getElem_take, List.getElem_drop, List.getElem_toArray]
  congr 1
  omega
theorem putB (d : Array WB) (l : List Value) (hl : l.length = d.size * 3) (junk : List Value) : Go.Sort.putCells id 0 (Go.Sort.flatK encB 3 d) (l ++ junk).toArray = (wflat (plainB d) ++ junk).toArray := by
  have h0 := wflat_len (plainB d)
  rw [plainB_len] at h0
  have hs : (Go.Sort.flatK encB 3 d).size = d.size * 3 := by simp
  refine Array.ext (by simp [Go.Sort.putCells]; omega) fun i h1 h2 => ?_
  simp only [Go.Sort.putCells, Array.getElem_mapIdx, hs]
  by_cases hi : i < d.size * 3
  · rw [if_pos ⟨Nat.zero_le _, by omega⟩, id, Nat.sub_zero, flatB, getElem!_pos _ i (by simp; omega)]
    simp [List.getElem_append, h0, hi]
  · rw [if_neg (by omega)]
    simp [List.getElem_append, h0, hl, hi]
def cf (x y : WB) : Int := if bef x.1 y.1 then -1 else 1
theorem ltOf_cf (x y : WB) : Go.Proofs.ltOf cf x y = decide (bef x.1 y.1) := by
  unfold Go.Proofs.ltOf cf
  by_cases h : bef x.1 y.1 <;> simp [h]
theorem bef_irrefl (x : W) : ¬ bef x x := by unfold bef; omega
theorem bef_trans {x y z : W} (h1 : bef x y) (h2 : bef y z) : bef x z := by unfold bef at *; omega
theorem bef_ntrans {x y z : W} (h1 : ¬ bef x y) (h2 : ¬ bef y z) : ¬ bef x z := by unfold bef at *; omega
theorem swo : Go.Sort.SWO (Go.Proofs.ltOf cf) where
  irrefl x := by rw [ltOf_cf]; exact decide_eq_false (bef_irrefl _)
  trans x y z h1 h2 := by
    rw [ltOf_cf] at *
    exact decide_eq_true (bef_trans (of_decide_eq_true h1) (of_decide_eq_true h2))
  ntrans x y z h1 h2 := by
    rw [ltOf_cf] at *
    exact decide_eq_false (bef_ntrans (of_decide_eq_false h1) (of_decide_eq_false h2))
theorem srt_of {d d' : Array WB} (hp : Go.Sort.PermIn 0 d.size d d') (hs : Go.Sort.SortedIn (Go.Proofs.ltOf cf) 0 d.size d') : (plainB d').Perm (plainB d) ∧ Srt (plainB d') := by
  obtain ⟨h1, _, h3⟩ := hp
  have e1 : d'.extract 0 d.size = d' := by rw [← h1]; exact Array.extract_size
  rw [e1, Array.extract_size] at h3
  refine ⟨h3.map _, ?_⟩
  unfold Srt
  rw [List.pairwise_iff_getElem]
  intro i j hi hj hij
  have hi' : i < d'.size := by rwa [plainB_len] at hi
  have hj' : j < d'.size := by rwa [plainB_len] at hj
  have := hs i j (Nat.zero_le _) hij (by omega)
  rw [ltOf_cf, getElem!_pos d' j hj', getElem!_pos d' i hi'] at this
  have h5 := of_decide_eq_false this
  simpa [plainB] using h5
end Go.Proofs.Ytfddplpljjlgiaa.Bs

namespace Go.Proofs.Ytfddplpljjlgiaa
open Go Go.RowKit Go.Shelf Go.Lib Go.Sort
theorem grow2 (W : World) (a b : Obj) : (W.alloc a).alloc b = grow W #[a, b] := by rw [alloc_eq_grow, alloc_eq_grow, grow_grow]; rfl
set_option maxHeartbeats 1000000 in
theorem before_grow (x y : Bs.W) (hx : x.dv.oneCell' = true) (hy : y.dv.oneCell' = true) (W : World) : Calls Try.prog 24 #[.agg (Bs.wcells x).toArray, .agg (Bs.wcells y).toArray] W fun e w' => e = .returned (.bool (decide (Bs.bef x y))) ∧ ∃ os', w' = grow W os' := by
  simp only [Bs.wcells]
  go_enter Try.func24, Try.ntmps24
  go_wp2
  · next h1 h2 =>
    go_ret
    exact ⟨congrArg (fun b => Ending.returned (.bool b)) (decide_eq_decide.2 ⟨fun h => .inr ⟨h2, h⟩, fun h => h.elim (fun h => absurd h (by omega)) (·.2)⟩), _, grow2 ..⟩
  · next h1 h2 =>
    go_ret
    exact ⟨congrArg (fun b => Ending.returned (.bool b)) (decide_eq_decide.2 ⟨fun h => .inl h, fun h => h.elim id (fun h => absurd h.1 h2)⟩), _, grow2 ..⟩
  · next h1 =>
    go_ret
    exact ⟨congrArg (fun b => Ending.returned (.bool b)) (decide_eq_true (.inl h1)).symm, _, grow2 ..⟩
def cf (x y : Bs.W) : Int := if Bs.bef x y then -1 else 1
set_option maxHeartbeats 1000000 in
theorem clos_grow (x y : Bs.W) (hx : x.dv.oneCell' = true) (hy : y.dv.oneCell' = true) (W : World) : Calls Try.prog 23 #[.agg (Bs.wcells x).toArray, .agg (Bs.wcells y).toArray] W fun e w' => e = .returned (.int .i64 (cf x y)) ∧ ∃ q os', w' = grow (W.drewN q) os' := by
  have hcon := before_grow x y hx hy
  unfold cf
  by_cases hb : Bs.bef x y
  all_goals
    simp only [hb, decide_true, decide_false, if_true, if_false] at hcon ⊢
    simp only [Bs.wcells] at hcon ⊢
    go_enter Try.func23, Try.ntmps23
    go_wp2_with (go_at_call 24; refine (hcon _).mono ?_; rintro e w' ⟨rfl, os, rfl⟩)
    go_ret
    exact ⟨rfl, 0, _, by rw [grow2, grow_grow]; rfl⟩
end Go.Proofs.Ytfddplpljjlgiaa

namespace Go.Proofs.Ytfddplpljjlgiaa
open Go Go.RowKit Go.Shelf Go.Lib Go.Sort Fw
set_option linter.unusedVariables false
def pdqq_ren : Go.Shelf.Ren := ⟨fun | 14 => 28 | 20 => 30 | 21 => 31 | 22 => 32 | 23 => 33 | 24 => 34 | 25 => 35 | 26 => 36 | 27 => 37 | 46 => 40 | 47 => 41 | 48 => 42 | 49 => 43 | 50 => 44 | 15 => 29 | 57 => 45 | 28 => 38 | 29 => 39 | n => n, fun | 24 => 57 | 22 => 49 | 3 => 3 | 25 => 64 | 4 => 4 | 0 => 0 | 46 => 79 | 45 => 78 | 50 => 83 | 66 => 89 | 39 => 75 | 55 => 88 | 70 => 93 | 76 => 95 | 77 => 96 | 53 => 86 | 5 => 5 | 9 => 9 | n => n, fun | n => n⟩
theorem pdqq_lays : Go.Proofs.SlLaysF0.n14 Try.prog pdqq_ren := {
  mixed := by kernel_rfl
  f14 := ⟨Try.f28.name, by decide, Try.func28.trans (congrArg some (by kernel_rfl))⟩
  f15 := Try.func29.trans (congrArg some (by kernel_rfl))
  f20 := ⟨Try.f30.name, by decide, Try.func30.trans (congrArg some (by kernel_rfl))⟩
  f21 := ⟨Try.f31.name, by decide, Try.func31.trans (congrArg some (by kernel_rfl))⟩
  f22 := ⟨Try.f32.name, by decide, Try.func32.trans (congrArg some (by kernel_rfl))⟩
  f23 := ⟨Try.f33.name, by decide, Try.func33.trans (congrArg some (by kernel_rfl))⟩
  f24 := ⟨Try.f34.name, by decide, Try.func34.trans (congrArg some (by kernel_rfl))⟩
  f25 := ⟨Try.f35.name, by decide, Try.func35.trans (congrArg some (by kernel_rfl))⟩
  f26 := ⟨Try.f36.name, by decide, Try.func36.trans (congrArg some (by kernel_rfl))⟩
  f27 := ⟨Try.f37.name, by decide, Try.func37.trans (congrArg some (by kernel_rfl))⟩
  f28 := Try.func38.trans (congrArg some (by kernel_rfl))
  f29 := Try.func39.trans (congrArg some (by kernel_rfl))
  f46 := ⟨Try.f40.name, by decide, Try.func40.trans (congrArg some (by kernel_rfl))⟩
  f47 := Try.func41.trans (congrArg some (by kernel_rfl))
  f48 := Try.func42.trans (congrArg some (by kernel_rfl))
  f49 := ⟨Try.f43.name, by decide, Try.func43.trans (congrArg some (by kernel_rfl))⟩
  f50 := ⟨Try.f44.name, by decide, Try.func44.trans (congrArg some (by kernel_rfl))⟩
  f57 := ⟨Try.f45.name, by decide, Try.func45.trans (congrArg some (by kernel_rfl))⟩
  t0 := Try.underlying0
  a0 := Try.isAgg0
  z0 := Try.sizeOf0
  v0 := Try.zeroValue0
  t3 := Try.underlying3
  a3 := Try.isAgg3
  z3 := Try.sizeOf3
  v3 := Try.zeroValue3
  t4 := Try.underlying4
  a4 := Try.isAgg4
  z4 := Try.sizeOf4
  v4 := Try.zeroValue4
  t5 := Try.underlying5
  a5 := Try.isAgg5
  z5 := Try.sizeOf5
  v5 := Try.zeroValue5
  t9 := Try.underlying9
  a9 := Try.isAgg9
  z9 := Try.sizeOf9
  v9 := Try.zeroValue9
  t22 := Try.underlying49
  a22 := Try.isAgg49
  z22 := Try.sizeOf49
  v22 := Try.zeroValue49
  t25 := Try.underlying64
  a25 := Try.isAgg64
  z25 := Try.sizeOf64
  v25 := Try.zeroValue64
  t39 := Try.underlying75
  a39 := Try.isAgg75
  z39 := Try.sizeOf75
  v39 := Try.zeroValue75
  t45 := Try.underlying78
  a45 := Try.isAgg78
  z45 := Try.sizeOf78
  v45 := Try.zeroValue78
  t46 := Try.underlying79
  a46 := Try.isAgg79
  z46 := Try.sizeOf79
  v46 := Try.zeroValue79
  t50 := Try.underlying83
  a50 := Try.isAgg83
  z50 := Try.sizeOf83
  v50 := Try.zeroValue83
  t53 := Try.underlying86
  a53 := Try.isAgg86
  z53 := Try.sizeOf86
  v53 := Try.zeroValue86
  t55 := Try.underlying88
  a55 := Try.isAgg88
  z55 := Try.sizeOf88
  v55 := Try.zeroValue88
  t66 := Try.underlying89
  a66 := Try.isAgg89
  z66 := Try.sizeOf89
  v66 := Try.zeroValue89
  t70 := Try.underlying93
  a70 := Try.isAgg93
  z70 := Try.sizeOf93
  v70 := Try.zeroValue93
  t76 := Try.underlying95
  a76 := Try.isAgg95
  z76 := Try.sizeOf95
  v76 := Try.zeroValue95
  t77 := Try.underlying96
  a77 := Try.isAgg96
  z77 := Try.sizeOf96
  v77 := Try.zeroValue96 }
theorem cells_fro {w : World} {b T : Nat} {l junk : List Value} (hb : w.heap[b]? = some (.cells (l ++ junk).toArray T)) {i : Nat} (hi : i < l.length) : w.cell? ⟨b, 0 + i, none⟩ = some l[i] ∧ w.frozen? ⟨b, 0 + i, none⟩ = false := by
  constructor
  · have : (l ++ junk)[i]? = some l[i] := by rw [List.getElem?_append_left hi, List.getElem?_eq_getElem hi]
    simp [World.cell?, hb, this]
  · simp [World.frozen?, hb]
theorem pdqq_any (b cap : Nat) (l : List Bs.W) (junk : List Value) (lim : Nat) (w : World) (hlim : lim ≤ 1000) (hl : l.length ≤ 100000) (ho : ∀ x, x ∈ l → x.dv.oneCell' = true) (hc : l.length ≤ cap) (hj : junk.length = (cap - l.length) * 3) (hb : w.heap[b]? = some (.cells (Bs.wflat l ++ junk).toArray 57)) :
    Calls Try.prog 28 #[.slice (some ⟨b, 0, none⟩) l.length cap, .int .i64 0, .int .i64 (l.length : Nat), .int .i64 (lim : Nat), .func (.func 23) #[] #[]] w (Post (ι := List Bs.W) w [b] (fun l' => l'.Perm l ∧ Bs.Srt l') (fun _ => .tuple #[]) (fun l' => [(0, .own (.slice (some ⟨b, 0, none⟩) l.length cap) 57 3 (Bs.wflat l'))])) := by
  have hsz := Bs.packB_size l ho
  have hpl := Bs.plainB_pack l ho
  generalize Bs.packB l ho = d at hsz hpl
  subst hpl
  rw [Bs.plainB_len] at hl hc hj ⊢
  have hfl := Bs.wflat_len (Bs.plainB d)
  rw [Bs.plainB_len] at hfl
  have hbl : b < w.heap.size := by
    apply Classical.byContradiction
    intro h
    rw [Array.getElem?_eq_none (by omega)] at hb
    cases hb
  have hH : HoldsK Bs.encB 3 w b 0 d := by
    unfold HoldsK Holds
    intro j hj'
    rw [Bs.flatB] at hj' ⊢
    have hj2 : j < (Bs.wflat (Bs.plainB d)).length := by simpa using hj'
    rw [getElem!_pos _ j hj']
    have := cells_fro hb hj2
    exact ⟨by rw [this.1]; rfl, this.2⟩
  have hcmp : CmpLays Try.prog 23 #[] Bs.encB 3 Bs.cf b 0 d.size w := fun _ _ _ _ x y => clos_grow x.1 y.1 x.2 y.2 _
  have eg : ∀ args w, (callFunc 23 args).run Try.prog w = .ok (.enter 23 args) w := enters_of Try.func23 (by kernel_rfl) rfl
  have h := AnyQ.pdqsortCmpFunc_all (P := Try.prog) (ρ := pdqq_ren) pdqq_lays 3 Try.isAgg57 Try.sizeOf57 Bs.encB Bs.cf 23 #[] Bs.swo b 0 cap d w eg hcmp ⟨fun _ => rfl, fun x => Bs.wcells_one x.2, hH, hbl⟩ (d.size + 1) 0 d.size lim d w (by omega) rfl (SWK.start hH) (Nat.zero_le _) (Nat.le_refl _) (by omega) (by omega) (Or.inl rfl)
  have hs := pdq_sorts (ltOf Bs.cf) Bs.swo d 0 d.size lim true true (Nat.zero_le _) (Nat.le_refl _) (Or.inl rfl)
  have hp := Bs.srt_of hs.1 hs.2
  have hz : (pdq (ltOf Bs.cf) d 0 d.size lim true true).size = d.size := hs.1.1
  refine Calls.mono h ?_
  rintro e w' ⟨rfl, n, os, rfl⟩
  generalize pdq (ltOf Bs.cf) d 0 d.size lim true true = d' at hp hz ⊢
  have hfl' := Bs.wflat_len (Bs.plainB d')
  rw [Bs.plainB_len] at hfl'
  have hget : (sortWorldK Bs.encB 3 w b 0 n d' os).heap[b]? = some (.cells (Bs.wflat (Bs.plainB d') ++ junk).toArray 57) := by
    have h1 : (putRowK Bs.encB 3 (Sort.ahead w n) b 0 d').heap[b]? = some (.cells (Bs.wflat (Bs.plainB d') ++ junk).toArray 57) := by
      show (w.heap.modify b (onCells (putCells id 0 (flatK Bs.encB 3 d'))))[b]? = _
      rw [Array.getElem?_modify, if_pos rfl, hb]
      show some (Obj.cells (putCells id 0 (flatK Bs.encB 3 d') (Bs.wflat (Bs.plainB d) ++ junk).toArray) 57 _) = _
      rw [Bs.putB d' _ (by rw [hfl, hz])]
    unfold sortWorldK
    rw [heap_grow_old _ _ (by rw [size_putRowK]; exact hbl)]
    exact h1
  refine ⟨Bs.plainB d', hp, rfl, rfl, rfl, rfl, ?_, ?_, ?_, ?_, ?_⟩
  · unfold sortWorldK
    rw [size_grow, size_putRowK]
    exact Nat.le_add_right _ _
  · intro b' hb' hn
    unfold sortWorldK
    rw [heap_grow_old _ _ (by rw [size_putRowK]; exact hb')]
    show (w.heap.modify b _)[b']? = _
    rw [Array.getElem?_modify, if_neg (fun h => hn (by rw [h]; exact List.mem_singleton.2 rfl))]
  · intro h e hh
    obtain ⟨rfl, rfl⟩ := lk_one hh
    exact .inr ⟨b, d.size, cap, junk, rfl, by rw [hfl', hz], hj, hc, hget⟩
  · intro h e hh b' hb'
    obtain ⟨rfl, rfl⟩ := lk_one hh
    exact .inr hb'
  · intro h e h' e' hh hh' hne
    obtain ⟨rfl, rfl⟩ := lk_one hh
    obtain ⟨rfl, rfl⟩ := lk_one hh'
    exact absurd rfl hne
theorem pdqq_own (b cap : Nat) (l : List Bs.W) (lim : Nat) (w : World) (hlim : lim ≤ 1000) (hl : l.length ≤ 100000) (ho : ∀ x, x ∈ l → x.dv.oneCell' = true) (hv : Own w (.slice (some ⟨b, 0, none⟩) l.length cap) 57 3 (Bs.wflat l)) :
    Calls Try.prog 28 #[.slice (some ⟨b, 0, none⟩) l.length cap, .int .i64 0, .int .i64 (l.length : Nat), .int .i64 (lim : Nat), .func (.func 23) #[] #[]] w (Post (ι := List Bs.W) w [b] (fun l' => l'.Perm l ∧ Bs.Srt l') (fun _ => .tuple #[]) (fun l' => [(0, .own (.slice (some ⟨b, 0, none⟩) l.length cap) 57 3 (Bs.wflat l'))])) := by
  rcases hv with ⟨h, _⟩ | ⟨b', len, cap', junk, h, h1, h2, h3, h4⟩
  · cases h
  · cases h
    exact pdqq_any b cap l junk lim w hlim hl ho h3 h2 h4
end Go.Proofs.Ytfddplpljjlgiaa

namespace Go.Proofs.Ytfddplpljjlgiaa.Bs
open Go Fw Go.Proofs.Ytfddplpljjlgiaa
set_option linter.unusedSimpArgs false
set_option linter.unusedVariables false
def key (x : W) : Int × List Int := (x.id, x.data)
theorem next1 (a : W) : downS (swapS [a] 0 ([a].length - 1)) 0 ([a].length - 1) = [a] := by
  show downS (swapS _ 0 0) 0 0 = _
  rw [downS_stop (.inl (by decide))]
  rfl
end Go.Proofs.Ytfddplpljjlgiaa.Bs

namespace Go.Proofs.Ytfddplpljjlgiaa
open Go Go.RowKit Fw
open Bs
set_option linter.unusedVariables false
set_option linter.unusedSimpArgs false
theorem mod_own {H : List (Nat × Ent)} {ι : Type} {k T sz : Nat} {v : Value} {l : List Value} {e' : ι → Ent} (hv : lk H k = some (.own v T sz l)) : ∀ b', b' ∈ blkOf v → ∃ k' e, lk H k' = some e ∧ b' ∈ e.ids ∧ ∀ x, lk [(k, e' x)] k' ≠ none :=
  fun b' hb => ⟨k, _, hv, hb, fun x => by simp [lk_cons_same]⟩
set_option maxRecDepth 20000 in
set_option maxHeartbeats 1000000 in
theorem sort2_any (b cap : Nat) (l : List Bs.W) (junk : List Value) (w : World) (hl : l.length ≤ 200) (ho : ∀ x, x ∈ l → x.dv.oneCell' = true) (hc : l.length ≤ cap) (hj : junk.length = (cap - l.length) * 3) (hb : w.heap[b]? = some (.cells (Bs.wflat l ++ junk).toArray 57)) : Calls Try.prog 22 #[(.slice (some ⟨b, 0, none⟩) l.length cap), (.func (.func 23) #[] #[])] w (Post (ι := List Bs.W) w ([b]) (fun l' => l'.Perm l ∧ Bs.Srt l') (fun _ => .tuple #[]) (fun l' => [(0, .own (.slice (some ⟨b, 0, none⟩) l.length cap) 57 3 (Bs.wflat (l')))])) := by
  have hl8 := len8_le l.length (by omega)
  refine calls_at (vs := [(.slice (some ⟨b, 0, none⟩) l.length cap), (.func (.func 23) #[] #[])]) (X := [b]) (H := [(1, .own (.slice (some ⟨b, 0, none⟩) l.length cap) 57 3 (Bs.wflat (l)))]) (F := []) 14 Try.func22 rfl rfl rfl (Sat.own0 w 1 _ _ _ _ (.inr ⟨b, l.length, cap, junk, rfl, Bs.wflat_len l, hj, hc, hb⟩)) ?_
  refine cd_seq ?_
  refine cd_region ?_
  refine st (ev_move rfl) rfl rfl rfl ?_
  refine st (ev_len_own (h := 1) (n := l.length) Try.underlying50 rfl rfl (Bs.wflat_len l) (by decide)) rfl rfl rfl ?_
  refine st (ev_assign rfl) rfl rfl rfl ?_
  refine op_nil ?_
  refine ax_then ?_
  refine At.regs (L' := [(0, _), (1, _), (4, _)]) (.cons rfl (.cons rfl (.cons rfl (.nil _)))) ?_
  refine cd_region ?_
  refine st (ev_move rfl) rfl rfl rfl ?_
  refine st (ev_move rfl) rfl rfl rfl ?_
  refine st (ev_move rfl) rfl rfl rfl ?_
  refine st (ev_convu64 Try.underlying3 Try.underlying75 rfl (by omega) (by omega)) rfl rfl rfl ?_
  refine st_callv has29 rfl (fun w1 sw => len_any l.length w1 (by omega)) rfl rfl ?_
  refine st (ev_move rfl) rfl rfl rfl ?_
  refine st_call has28 rfl (fun w1 sw => rn 1 (pdqq_own b cap l _ w1 (by omega) (by omega) ho (sw.hold 1 _ rfl))) (mod_own (v := (.slice (some ⟨b, 0, none⟩) l.length cap)) (T := 57) (sz := 3) (l := Bs.wflat l) rfl) rfl rfl (fun x13 h13 => ?_)
  refine op_nil ?_
  refine rt_none (.inr rfl) Try.results22 ?_
  exact fun w1 sw => ⟨x13, h13, rfl, (sw.gives (N := [(1, _)]) (.cons rfl (.nil _))).rn 0⟩
theorem sortq_any (qv : Value) (l : List Bs.W) (w : World) (hl : l.length ≤ 200) (ho : ∀ x, x ∈ l → x.dv.oneCell' = true) (hv : Own w qv 57 3 (Bs.wflat l)) : Calls Try.prog 22 #[qv, (.func (.func 23) #[] #[])] w (Post (ι := List Bs.W) w (blkOf qv) (fun l' => l'.Perm l ∧ Bs.Srt l') (fun _ => .tuple #[]) (fun l' => [(0, .own (qv) 57 3 (Bs.wflat (l')))])) := by
  by_cases h1 : l.length ≤ 1
  · refine (sort1_any qv (.func (.func 23) #[] #[]) l w h1 (own_rd hv)).mono ?_
    rintro e w' ⟨rfl, g⟩
    refine ⟨l, ⟨List.Perm.refl _, ?_⟩, rfl, ((Sat.own0 w 0 _ _ _ _ hv).step g (fun b hb => by cases hb)).gives (N := [(0, _)]) (.cons rfl (.nil _))⟩
    match l, h1 with
    | [], _ => exact List.Pairwise.nil
    | [a], _ => exact List.pairwise_singleton _ _
  · rcases hv with ⟨_, h2⟩ | ⟨b, len, cap, junk, rfl, h2, h3, h4, h5⟩
    · have := Bs.wflat_len l
      rw [h2] at this
      simp at this
      omega
    · have : len = l.length := by have := Bs.wflat_len l; omega
      subst this
      exact sort2_any b cap l junk w hl ho h4 h3 h5
set_option maxRecDepth 20000 in
set_option maxHeartbeats 1000000 in
theorem cloneq_nil (w : World) : Calls Try.prog 21 #[.slice none 0 0] w (Post (ι := Value) w [] (fun _ => True) (fun v => v) (fun v => [(0, .own (v) 57 3 (Bs.wflat ([])))])) := by
  refine calls_at (vs := [.slice none 0 0]) (X := []) (H := []) (F := []) 8 Try.func21 rfl rfl rfl (Sat.start0 w) ?_
  refine cd_seq ?_
  refine cd_region ?_
  refine st (ev_assign rfl) rfl rfl rfl ?_
  refine at_own_nil 2 57 3 ?_
  refine op_nil ?_
  refine ax_then ?_
  refine At.regs (L' := [(0, _), (2, _)]) (.cons rfl (.cons rfl (.nil _))) ?_
  refine cd_seq ?_
  refine cd_seq ?_
  refine cd_region ?_
  refine st (ev_move rfl) rfl rfl rfl ?_
  refine st (ev_eql_slice_nil Try.underlying50 rfl rfl) rfl rfl rfl ?_
  refine op_nil ?_
  refine ax_then ?_
  refine At.regs (L' := [(0, _), (2, _), (4, _)]) (.cons rfl (.cons rfl (.cons rfl (.nil _)))) ?_
  refine cd_true rfl ?_
  refine cd_seq ?_
  refine at_own_nil 5 57 3 ?_
  refine at_heq (i := 5) (v' := .own (.slice none 0 0) 57 3 (Bs.wflat ([]))) rfl rfl ?_
  refine cd_region ?_
  refine st (ev_assign rfl) rfl rfl rfl ?_
  refine at_own_nil 2 57 3 ?_
  refine op_nil ?_
  refine ax_then ?_
  refine At.regs (L' := [(0, _), (2, _)]) (.cons rfl (.cons rfl (.nil _))) ?_
  refine cd_ret ?_
  refine ax_then_ret ?_
  refine rt_tmp (.inl rfl) Try.results21 rfl ?_
  exact fun w1 sw => ⟨_, trivial, rfl, (sw.gives (N := [(5, _)]) (.cons rfl (.nil _))).rn 0⟩
theorem cloneq_any (qv : Value) (l : List Bs.W) (w : World) (hl : l.length ≤ 100000) (ho : ∀ x, x ∈ l → x.dv.oneCell' = true) (h : Rd w qv 3 (Bs.wflat l)) : Calls Try.prog 21 #[qv] w (Post (ι := Value) w [] (fun _ => True) (fun v => v) (fun v => [(0, .own (v) 57 3 (Bs.wflat (l)))])) := by
  have h' := h
  obtain ⟨a, len, cap, rfl, h1, h2, h3, h4⟩ := h
  cases a with
  | some x => exact cloneq_some x len cap l w hl ho h'
  | none =>
    have hc := h3 rfl
    have hn : len = 0 := by omega
    subst hc; subst hn
    have : l = [] := List.length_eq_zero_iff.1 (by have := Bs.wflat_len l; omega)
    subst this
    exact cloneq_nil w
end Go.Proofs.Ytfddplpljjlgiaa

namespace Go.Proofs.Ytfddplpljjlgiaa.Fw
open Go Go.RowKit Go.Proofs.Ytfddplpljjlgiaa
set_option linter.unusedSimpArgs false
set_option linter.unusedVariables false
theorem strOf_list (l : List Int) : (strOf l).toList = l.map fun x => UInt8.ofNat x.toNat := by
  rw [ByteArray.toList_eq]
  rfl
theorem strOf_inj : ∀ {l m : List Int}, Sha.Byt l → Sha.Byt m → (strOf l).toList = (strOf m).toList → l = m
  | [], [], _, _, _ => rfl
  | [], _ :: _, _, _, h => by rw [strOf_list, strOf_list] at h; simp at h
  | _ :: _, [], _, _, h => by rw [strOf_list, strOf_list] at h; simp at h
  | x :: l, y :: m, hl, hm, h => by
    rw [strOf_list, strOf_list, List.map_cons, List.map_cons, List.cons.injEq] at h
    have hx := hl x (by simp)
    have hy := hm y (by simp)
    have e : x = y := by
      have h1 := congrArg UInt8.toNat h.1
      simp at h1
      omega
    have e2 : l = m := strOf_inj (fun c hc => hl c (by simp [hc])) (fun c hc => hm c (by simp [hc])) (by rw [strOf_list, strOf_list]; exact h.2)
    rw [e, e2]
section
variable {P : Program} {E : Env} {L : List (Nat × Value)} {H : List (Nat × Ent)} {F : List (Nat × FE)}
variable {dst : Option Tmp} {ty : TypeId} {pos : String} {af : Array Edge} {gd : Option (Nat × Bool)}
theorem str_beq {l m : List Int} (hl : Sha.Byt l) (hm : Sha.Byt m) : ((strOf l).toList == (strOf m).toList) = decide (l = m) := by
  rw [Bool.eq_iff_iff, decide_eq_true_eq, beq_iff_eq]
  exact ⟨strOf_inj hl hm, fun h => by rw [h]⟩
theorem ev_eql_strb {T T' : Nat} {x y : Operand} {l m : List Int} (hx : ev L x = some (.string (strOf l))) (hy : ev L y = some (.string (strOf m))) (hl : Sha.Byt l) (hm : Sha.Byt m) : Ev P ⟨dst, .binOp .eql T x y T', ty, pos, af, gd⟩ E L H F (.bool (decide (l = m))) :=
  fun a w fa _ => by simp [execOp, fa.ev hx, fa.ev hy, eqGuard, binOp, Op.stringOp, str_beq hl hm]
theorem ev_neq_strb {T T' : Nat} {x y : Operand} {l m : List Int} (hx : ev L x = some (.string (strOf l))) (hy : ev L y = some (.string (strOf m))) (hl : Sha.Byt l) (hm : Sha.Byt m) : Ev P ⟨dst, .binOp .neq T x y T', ty, pos, af, gd⟩ E L H F (.bool (decide (¬ l = m))) :=
  fun a w fa _ => by
    have h := str_beq hl hm
    simp [execOp, fa.ev hx, fa.ev hy, eqGuard, binOp, Op.stringOp, bne, h]
end
end Go.Proofs.Ytfddplpljjlgiaa.Fw

namespace Go.Proofs.Ytfddplpljjlgiaa
open Go Go.RowKit Fw
open Bs
set_option linter.unusedVariables false
set_option linter.unusedSimpArgs false
set_option maxRecDepth 20000 in
set_option maxHeartbeats 2000000 in
theorem list1_any (b : Nat) (qv c : Value) (a : Bs.W) (w : World) (ho : a.dv.oneCell' = true) (hda : a.data.length ≤ 8) (h : Lies w b 0 [qv, c]) (h' : Rd w qv 3 (Bs.wflat [a])) (hr : Rd w a.dv 1 (ints .u8 a.data)) : Calls Try.prog 16 #[.pointer (some ⟨b, 0, none⟩)] w (PostR (ι := Value × Value) w (fun _ => True) (fun x => x.1) (fun x => [(101, .own (x.2) 5 1 (ints .u8 (a.data)))]) (fun x => [(x.1, 2, [.int .i64 a.id, x.2])])) := by
  refine calls_at (vs := [.pointer (some ⟨b, 0, none⟩)]) (X := []) (H := []) (F := [(40, .sl (a.dv) 1 (ints .u8 (a.data))), (21, .mem b 0 [qv, c]), (20, .sl (qv) 3 (Bs.wflat ([a])))]) 30 Try.func16 rfl rfl rfl (((Sat.rd0 20 h').read (f := .mem b 0 [qv, c]) 21 h off_nil).read (f := .sl (a.dv) 1 (ints .u8 (a.data))) 40 hr off_nil) ?_
  refine cd_seq ?_
  refine cd_region ?_
  refine st (ev_assign rfl) rfl rfl rfl ?_
  refine at_own_nil 2 29 2 ?_
  refine op_nil ?_
  refine ax_then ?_
  refine At.regs (L' := [(0, _), (2, _)]) (.cons rfl (.cons rfl (.nil _))) ?_
  refine cd_seq ?_
  refine cd_seq ?_
  refine cd_region ?_
  refine st (ev_move rfl) rfl rfl rfl ?_
  refine st (ev_eql_ptr_nil Try.underlying23 rfl rfl) rfl rfl rfl ?_
  refine op_nil ?_
  refine ax_then ?_
  refine At.regs (L' := [(0, _), (2, _), (8, _)]) (.cons rfl (.cons rfl (.cons rfl (.nil _)))) ?_
  refine cd_false rfl ?_
  refine cd_skip ?_
  refine ax_then ?_
  refine At.regs (L' := [(0, _), (2, _)]) (.cons rfl (.cons rfl (.nil _))) ?_
  refine cd_seq ?_
  refine cd_region ?_
  refine st (ev_move rfl) rfl rfl rfl ?_
  refine st (ev_nilCheck rfl) rfl rfl rfl ?_
  refine st (ev_fieldAddr (b := _) Try.underlying52 (f := _) rfl ty50 (by decide) rfl) rfl rfl rfl ?_
  refine st (ld_mem1 (h := 21) ty50 rfl rfl rfl (Nat.zero_add _).symm rfl) rfl rfl rfl ?_
  refine st_call has21 rfl (fun w1 sw => rn 13 (cloneq_any qv [a] w1 (Nat.le_of_ble_eq_true rfl) (fun x hx => by rw [List.mem_singleton.1 hx]; exact ho) (sw.sl_rd (h := 20) rfl))) nil_all rfl rfl (fun v13 _ => ?_)
  refine st (ev_assign rfl) rfl rfl rfl ?_
  refine op_nil ?_
  refine ax_then ?_
  refine At.regs (L' := [(2, _), (3, _)]) (.cons rfl (.cons rfl (.nil _))) ?_
  refine cd_seq ?_
  refine cd_region ?_
  refine st (ev_move rfl) rfl rfl rfl ?_
  refine st_call has22 rfl (fun w1 sw => rn 13 (sortq_any v13 [a] w1 (Nat.le_of_ble_eq_true rfl) (fun x hx => by rw [List.mem_singleton.1 hx]; exact ho) (sw.hold 13 _ rfl))) (mod_own rfl) rfl rfl (fun ls hls => ?_)
  obtain rfl : ls = [a] := List.perm_singleton.1 hls.1
  refine op_nil ?_
  refine ax_then ?_
  refine At.regs (L' := [(2, _), (3, _)]) (.cons rfl (.cons rfl (.nil _))) ?_
  refine cd_seq ?_
  refine cd_region ?_
  refine st (ev_assign rfl) rfl rfl rfl ?_
  refine at_own_nil 4 29 2 ?_
  refine op_nil ?_
  refine ax_then ?_
  refine At.regs (L' := [(2, _), (3, _), (4, _)]) (.cons rfl (.cons rfl (.cons rfl (.nil _)))) ?_
  refine cd_seq ?_
  refine cd_seq ?_
  refine cd_region ?_
  refine st (ev_move rfl) rfl rfl rfl ?_
  refine st (ev_len_own (h := 13) (n := 1) Try.underlying50 rfl rfl rfl (by decide)) rfl rfl rfl ?_
  refine st (ev_move rfl) rfl rfl rfl ?_
  refine op_nil ?_
  refine ax_then ?_
  refine At.regs (L' := [(2, _), (4, _), (16, _), (17, _), (18, _)]) (.cons rfl (.cons rfl (.cons rfl (.cons rfl (.cons rfl (.nil _)))))) ?_
  refine cd_block ?_
  refine at_own_nil 100 29 2 ?_
  refine at_own_nil 101 5 1 ?_
  refine at_heq (i := 101) (v' := .own (.slice none 0 0) 5 1 (ints .u8 ([]))) rfl rfl ?_
  refine cd_loop (ι := Nat × Value × Value × List Int × List Value) (fun x => x.1 ≤ 1 ∧ (x.1 = 0 → x.2.2.2.2 = []) ∧ (x.1 = 1 → x.2.2.2.1 = a.data ∧ x.2.2.2.2 = [.int .i64 a.id, x.2.2.1])) (fun x => 1 - x.1)
      (fun x => [(4, x.2.1), (16, v13), (17, .int .i64 ((1 : Nat) : Int)), (18, .int .i64 (x.1 : Nat))])
      (fun x => [(13, .own (v13) 57 3 (Bs.wflat ([a]))), (100, .own (x.2.1) 29 2 (x.2.2.2.2)), (101, .own (x.2.2.1) 5 1 (ints .u8 (x.2.2.2.1)))])
      (fun x => [(40, .sl (a.dv) 1 (ints .u8 (a.data)))])
      (0, .slice none 0 0, .slice none 0 0, [], []) (⟨Nat.zero_le _, (fun _ => rfl), fun h => by cases h⟩) (.cons rfl (.cons rfl (.cons rfl (.cons rfl (.nil _))))) (.cons rfl (.cons rfl (.cons rfl (.nil _)))) (.cons rfl (.nil _)) (fun x hi => ?_)
  obtain ⟨k, v4, d, dd, cs⟩ := x
  dsimp only at hi ⊢
  obtain ⟨hk, hz, hone⟩ := hi
  refine cd_seq ?_
  refine cd_region ?_
  refine st (ev_lss rfl rfl) rfl rfl rfl ?_
  refine op_nil ?_
  refine ax_then ?_
  refine At.regs (L' := [(4, _), (16, _), (17, _), (18, _), (19, _)]) (.cons rfl (.cons rfl (.cons rfl (.cons rfl (.cons rfl (.nil _)))))) ?_
  refine cd_seq ?_
  refine cd_if rfl (fun hc19 => ?_) (fun hc19 => ?_)
  ·
    obtain rfl : k = 0 := by omega
    obtain rfl := hz rfl
    refine cd_skip ?_
    refine ax_then ?_
    refine At.regs (L' := [(4, _), (16, _), (17, _), (18, _), (19, _)]) (.cons rfl (.cons rfl (.cons rfl (.cons rfl (.cons rfl (.nil _)))))) ?_
    refine cd_seq ?_
    refine cd_block ?_
    refine cd_seq ?_
    refine cd_region ?_
    refine st (ev_indexAddr_own (h := 13) (n := 1) Try.underlying50 ty57 rfl rfl rfl rfl (by decide) (by decide) (by decide)) rfl rfl rfl ?_
    refine st (ld_own (k := (0 : Int).toNat * 3) (h := 13) ty57 rfl rfl rfl (by decide) (Nat.le_of_ble_eq_true rfl)) rfl rfl rfl ?_
    refine at_eq (i := 21) (v' := .agg (List.toArray [.int .i64 a.id, a.dv, .int .i64 a.came])) rfl rfl ?_
    refine st_alloc (h := 6) ty57 rfl rfl rfl (fun b6 => ?_)
    refine st_store_all 6 ty57 rfl rfl rfl rfl rfl (Bs.wcells_one ho) rfl rfl ?_
    refine op_nil ?_
    refine ax_then ?_
    refine At.regs (L' := [(4, _), (6, _), (16, _), (17, _), (18, _), (19, _), (20, _), (21, _)]) (.cons rfl (.cons rfl (.cons rfl (.cons rfl (.cons rfl (.cons rfl (.cons rfl (.cons rfl (.nil _))))))))) ?_
    refine cd_region ?_
    refine st (ev_move rfl) rfl rfl rfl ?_
    refine st (ev_fieldAddr (b := _) Try.underlying57 (f := _) rfl ty29 (by decide) rfl) rfl rfl rfl ?_
    refine st (ld_blk (h := 6) ty29 rfl rfl rfl (Nat.le_of_ble_eq_true rfl)) rfl rfl rfl ?_
    refine at_eq (i := 24) (v' := .agg (List.toArray [.int .i64 a.id, a.dv])) rfl rfl ?_
    refine st_call has18 rfl (fun w1 sw => rn 101 (copied_any a.id a.dv a.data w1 (by omega) (sw.sl_rd (h := 40) rfl))) nil_all rfl rfl (fun v25 _ => ?_)
    refine at_own_shape (h := 101) rfl (fun hs25 => ?_)
    refine st_bs1 (h := 26) (cs := [.int .i64 a.id, v25]) Try.underlying40 ty29 rfl rfl rfl (by decide) (by decide) rfl rfl (fun b26 => ?_)
    refine st_append (n := 0) (m := 1) (h := 100) (cs := [.int .i64 a.id, v25]) Try.underlying40 Try.underlying40 ty29 rfl rfl rfl rfl (fun w1 sw => sw.own_rd (h := 26) rfl) (by decide) rfl rfl (by decide) (by decide) (by intro u hu; simp only [List.mem_cons, List.not_mem_nil, or_false] at hu; rcases hu with rfl | rfl; rfl; exact hs25.2) rfl rfl (fun v27 => ?_)
    refine at_heq (i := 100) (v' := .own (v27) 29 2 ([.int .i64 a.id, v25])) rfl rfl ?_
    refine st (ev_assign rfl) rfl rfl rfl ?_
    refine op_nil ?_
    refine ax_block ?_
    refine ax_then ?_
    refine At.regs (L' := [(4, _), (6, _), (16, _), (17, _), (18, _), (19, _), (20, _), (21, _), (22, _), (23, _), (24, _), (25, _), (26, _), (27, _)]) (.cons rfl (.cons rfl (.cons rfl (.cons rfl (.cons rfl (.cons rfl (.cons rfl (.cons rfl (.cons rfl (.cons rfl (.cons rfl (.cons rfl (.cons rfl (.cons rfl (.nil _))))))))))))))) ?_
    refine cd_region ?_
    refine st (ev_add64 rfl rfl (by omega) (by omega)) rfl rfl rfl ?_
    refine st (ev_move rfl) rfl rfl rfl ?_
    refine op_nil ?_
    exact at_again ((0 + 1, v27, v25, a.data, [.int .i64 a.id, v25])) (⟨Nat.le_refl _, (fun h => by cases h), fun _ => ⟨rfl, rfl⟩⟩) (by show 1 - (0 + 1) < 1 - 0; omega) (.cons rfl (.cons rfl (.cons rfl (.cons rfl (.nil _))))) (.cons rfl (.cons rfl (.cons rfl (.nil _)))) (.cons rfl (.nil _))
  ·
    obtain rfl : k = 1 := by omega
    obtain ⟨rfl, rfl⟩ := hone rfl
    refine cd_exit ?_
    refine ax_then_exit ?_
    refine ax_then_exit ?_
    refine ax_block_hit ?_
    refine ax_then ?_
    refine At.regs (L' := [(4, _)]) (.cons rfl (.nil _)) ?_
    refine cd_seq ?_
    refine at_rows_nil 41 ?_
    refine at_rows_add (h := 100) (i := 41) (H' := [(101, _)]) rfl rfl (.cons rfl (.nil _)) rfl (fun hf41 => ?_)
    refine cd_region ?_
    refine st (ev_move rfl) rfl rfl rfl ?_
    refine st (ev_assign rfl) rfl rfl rfl ?_
    refine op_nil ?_
    refine ax_then ?_
    refine At.regs (L' := [(2, _)]) (.cons rfl (.nil _)) ?_
    refine cd_ret ?_
    refine rt_tmp (.inl rfl) Try.results16 rfl ?_
    exact fun w1 sw => ⟨(v4, d), trivial, rfl, (sw.gives (N := [(101, _)]) (.cons rfl (.nil _))), (fun y hy => ⟨sw.row (i := 41) rfl hy, fun b hb => by rw [List.mem_singleton.1 hy] at hb; exact (hf41 b hb).resolve_right (by simp)⟩), fun h e hh b hb => by
      obtain ⟨rfl, rfl⟩ := lk_one hh
      exact fun y hy => sw.off 41 _ 101 _ rfl rfl b hb y hy⟩
set_option maxRecDepth 20000 in
set_option maxHeartbeats 4000000 in
theorem busOwn_any (dv : Value) (data : List Int) (w : World) (hlen : data.length ≤ 140737488351232) (hB : Sha.Byt data) (hd : Rd w dv 1 (ints .u8 data)) : Calls Try.prog 6 #[dv] w (PostV w (.bool true)) := by
  refine calls_at (vs := [dv]) (X := []) (H := []) (F := [(22, .sl (dv) 1 (ints .u8 (data)))]) 100 Try.func6 rfl rfl rfl (Sat.rd0 22 hd) ?_
  refine cd_seq ?_
  refine cd_region ?_
  refine st (ev_assign rfl) rfl rfl rfl ?_
  refine op_nil ?_
  refine ax_then ?_
  refine At.regs (L' := [(0, _), (2, _)]) (.cons rfl (.cons rfl (.nil _))) ?_
  refine cd_seq ?_
  refine cd_seq ?_
  refine cd_region ?_
  refine st (ev_move rfl) rfl rfl rfl ?_
  refine st (ev_len_rdi (h := 22) Try.underlying27 rfl rfl) rfl rfl rfl ?_
  refine st (ev_lss rfl rfl) rfl rfl rfl ?_
  refine st (ev_move rfl) rfl rfl rfl ?_
  refine at_split_if (i := 14) rfl (fun hg14 => ?_) (fun hg14 => ?_)
  ·
    refine st_skip rfl rfl rfl ?_
    refine st_skip rfl rfl rfl ?_
    refine st_skip rfl rfl rfl ?_
    refine st (ev_pick_t rfl rfl) rfl rfl rfl ?_
    refine op_nil ?_
    refine ax_then ?_
    refine At.regs (L' := [(0, _), (2, _), (18, _)]) (.cons rfl (.cons rfl (.cons rfl (.nil _)))) ?_
    refine cd_true rfl ?_
    refine cd_seq ?_
    refine cd_region ?_
    refine st (ev_assign rfl) rfl rfl rfl ?_
    refine op_nil ?_
    refine ax_then ?_
    refine At.regs (L' := [(0, _), (2, _)]) (.cons rfl (.cons rfl (.nil _))) ?_
    refine cd_ret ?_
    refine ax_then_ret ?_
    refine rt_tmp (.inl rfl) Try.results6 rfl ?_
    exact fun w1 sw => ⟨rfl, sw.gives (.nil _)⟩
  ·
    refine st (ev_move rfl) rfl rfl rfl ?_
    refine st (ev_len_rdi (h := 22) Try.underlying27 rfl rfl) rfl rfl rfl ?_
    refine st (ev_gtr rfl rfl) rfl rfl rfl ?_
    refine st (ev_pick_f rfl rfl) rfl rfl rfl ?_
    refine op_nil ?_
    refine ax_then ?_
    refine At.regs (L' := [(0, _), (2, _), (18, _)]) (.cons rfl (.cons rfl (.cons rfl (.nil _)))) ?_
    refine cd_if rfl (fun hc18 => ?_) (fun hc18 => ?_)
    ·
      refine cd_seq ?_
      refine cd_region ?_
      refine st (ev_assign rfl) rfl rfl rfl ?_
      refine op_nil ?_
      refine ax_then ?_
      refine At.regs (L' := [(0, _), (2, _)]) (.cons rfl (.cons rfl (.nil _))) ?_
      refine cd_ret ?_
      refine ax_then_ret ?_
      refine rt_tmp (.inl rfl) Try.results6 rfl ?_
      exact fun w1 sw => ⟨rfl, sw.gives (.nil _)⟩
    ·
      refine cd_skip ?_
      refine ax_then ?_
      refine At.regs (L' := [(0, _), (2, _)]) (.cons rfl (.cons rfl (.nil _))) ?_
      refine cd_seq ?_
      refine cd_region ?_
      refine st_call has7 rfl (fun w1 sw => new_any w1) nil_all rfl rfl (fun b19 _ => ?_)
      refine st (ev_assign rfl) rfl rfl rfl ?_
      refine op_nil ?_
      refine ax_then ?_
      refine At.regs (L' := [(0, _), (2, _), (3, _)]) (.cons rfl (.cons rfl (.cons rfl (.nil _)))) ?_
      refine cd_seq ?_
      refine cd_seq ?_
      refine cd_region ?_
      refine st (ev_move rfl) rfl rfl rfl ?_
      refine st (ev_eql_ptr_nil Try.underlying23 rfl rfl) rfl rfl rfl ?_
      refine op_nil ?_
      refine ax_then ?_
      refine At.regs (L' := [(0, _), (2, _), (3, _), (21, _)]) (.cons rfl (.cons rfl (.cons rfl (.cons rfl (.nil _))))) ?_
      refine cd_false rfl ?_
      refine cd_skip ?_
      refine ax_then ?_
      refine At.regs (L' := [(0, _), (2, _), (3, _)]) (.cons rfl (.cons rfl (.cons rfl (.nil _)))) ?_
      refine cd_seq ?_
      refine cd_region ?_
      refine st_buildSlice (h := 22) (cells := []) Try.underlying27 ty5 rfl (by decide) (fill_nil.trans (by simp)) rfl rfl rfl (fun b22 => ?_)
      refine at_heq (i := 22) (v' := .own (.slice (some ⟨b22, 0, none⟩) 0 0) 5 1 (ints .u8 ([]))) rfl rfl ?_
      refine st (ev_move rfl) rfl rfl rfl ?_
      refine st_append (n := 0) (m := data.length) (h := 22) (cs := ints .u8 data) Try.underlying27 Try.underlying27 ty5 rfl rfl rfl rfl (fun w1 sw => sw.sl_rd (h := 22) rfl) (by decide) rfl (by rw [ints_length]; omega) (by omega) (by decide) (ints_one _ _) rfl rfl (fun v24 => ?_)
      refine at_hren (h := 22) 24 (H' := [(0, _), (1, _)]) rfl (.cons rfl (.cons rfl (.nil _))) rfl ?_
      refine at_heq (i := 24) (v' := .own (v24) 5 1 (ints .u8 (data))) rfl rfl ?_
      refine at_own_shape (h := 24) rfl (fun hs24 => ?_)
      refine st (ev_assign rfl) rfl rfl rfl ?_
      refine op_nil ?_
      refine ax_then ?_
      refine At.regs (L' := [(0, _), (2, _), (3, _), (4, _)]) (.cons rfl (.cons rfl (.cons rfl (.cons rfl (.nil _))))) ?_
      refine cd_seq ?_
      refine cd_region ?_
      refine st (ev_move rfl) rfl rfl rfl ?_
      refine st (ev_move rfl) rfl rfl rfl ?_
      refine st (ev_build_struct ty29 rfl pl29 rfl ((fill_put (i := 0) (off := 0) (n := 1) (vs := [.int .i64 1]) rfl rfl rfl (Nat.le_of_ble_eq_true rfl)).trans ((fill_put (i := 1) (off := 1) (n := 1) (vs := [v24]) rfl hs24.1 rfl (Nat.le_of_ble_eq_true rfl)).trans fill_nil))) rfl rfl rfl ?_
      refine at_eq (i := 27) (v' := .agg (List.toArray [.int .i64 1, v24])) rfl rfl ?_
      refine st_callRM 200 has8 rfl (fun w1 sw => send_ok b19 (.slice none 0 0) v24 [] 0 1 data w1 ⟨by decide, by decide⟩ (by omega) (by decide) (by decide) (by decide) (fun y hy => by cases hy) (sw.blk_eq (h := 0) rfl) (sw.hold 1 _ rfl) (sw.apart 0 _ 1 _ rfl rfl (by decide) _ (by simp [Ent.ids])) (sw.own_rd (h := 24) rfl) (sw.own_off (h := 0) (h' := 24) rfl rfl (by decide)) (fun _ hx => by cases hx)) (mod_two rfl rfl) rfl rfl (fun x28 hx28 hf28 => ?_)
      obtain ⟨q28, v28⟩ := x28
      dsimp only at hx28 ⊢
      refine at_heq (i := 1) (v' := .own (q28) 57 3 (Bs.wflat ([(⟨1, v28, data, ((0 + 1 : Nat) : Int)⟩ : Bs.W)]))) rfl (congrArg (fun z => Ent.own q28 57 3 (Bs.wflat z)) (Bs.upS_stop (.inl rfl))) ?_
      refine op_nil ?_
      refine ax_then ?_
      refine At.regs (L' := [(0, _), (2, _), (3, _), (4, _)]) (.cons rfl (.cons rfl (.cons rfl (.cons rfl (.nil _))))) ?_
      refine cd_seq ?_
      refine cd_region ?_
      refine st (ev_move rfl) rfl rfl rfl ?_
      refine st (ev_indexAddr_owni (h := 24) Try.underlying27 ty5 rfl rfl rfl (by omega) (by first | omega | (simp only [List.length_append, List.length_cons, List.length_nil, List.length_set, List.length_replicate, List.length_take, List.length_drop, ints_length, wr_length] <;> omega))) rfl rfl rfl ?_
      refine st (ld_own1 (h := 24) ty5 rfl rfl rfl (ints_get _ _ _ (by first | omega | (simp only [List.length_append, List.length_cons, List.length_nil, List.length_set, List.length_replicate, List.length_take, List.length_drop, ints_length, wr_length] <;> omega) | rfl))) rfl rfl rfl ?_
      refine st (ev_xor rfl rfl) rfl rfl rfl ?_
      refine st (ev_indexAddr_owni (h := 24) Try.underlying27 ty5 rfl rfl rfl (by omega) (by first | omega | (simp only [List.length_append, List.length_cons, List.length_nil, List.length_set, List.length_replicate, List.length_take, List.length_drop, ints_length, wr_length] <;> omega))) rfl rfl rfl ?_
      refine st_store_own (vl := ints .u8 [_]) 24 ty5 rfl rfl rfl rfl (by first | omega | (simp only [List.length_append, List.length_cons, List.length_nil, List.length_set, List.length_replicate, List.length_take, List.length_drop, ints_length, wr_length] <;> omega) | rfl) (ints_one _ _) (by first | omega | (simp only [List.length_append, List.length_cons, List.length_nil, List.length_set, List.length_replicate, List.length_take, List.length_drop, ints_length, wr_length] <;> omega) | rfl) (by decide) rfl ?_
      refine at_heq (i := 24) rfl (by rw [ints_wr]) ?_
      refine op_nil ?_
      refine ax_then ?_
      refine At.regs (L' := [(0, _), (2, _), (3, _)]) (.cons rfl (.cons rfl (.cons rfl (.nil _)))) ?_
      refine cd_seq ?_
      refine cd_region ?_
      refine st (ev_move rfl) rfl rfl rfl ?_
      refine st_callR 41 has16 rfl (fun w1 sw => list1_any b19 q28 (.int .i64 ((0 + 1 : Nat) : Int)) (⟨1, v28, data, ((0 + 1 : Nat) : Int)⟩ : Bs.W) w1 hx28 (show data.length ≤ 8 by omega) (lies_blk (sw.blk_eq (h := 0) rfl)) (sw.own_rd (h := 1) rfl) (sw.row (i := 200) rfl (List.mem_cons_self ..))) rfl rfl (fun x35 _ hf35 => ?_)
      obtain ⟨v35, d35⟩ := x35
      dsimp only
      refine at_rowsl (i := 41) 42 rfl (List.mem_cons_self ..) ?_
      refine at_rowsl (i := 200) 43 rfl (List.mem_cons_self ..) ?_
      refine st (ev_assign rfl) rfl rfl rfl ?_
      refine op_nil ?_
      refine ax_then ?_
      refine At.regs (L' := [(0, _), (2, _), (3, _), (5, _)]) (.cons rfl (.cons rfl (.cons rfl (.cons rfl (.nil _))))) ?_
      refine cd_seq ?_
      refine cd_seq ?_
      refine cd_mixp [(303, .sl (d35) 1 (ints .u8 (data))), (42, .sl v35 2 [.int .i64 (1 : Int), d35]), (22, .sl (dv) 1 (ints .u8 (data)))] hmix ?_
      refine mxp (i := 0) rfl (by decide +kernel) (by decide +kernel) (by decide +kernel) rfl (fun w0 => ev_move rfl) rfl rfl (fun w sw => CF.cons (sw.own_rd (h := 101) rfl) (sw.cf (.cons rfl (.cons rfl (.nil _))))) ?_
      refine mxp (i := 1) rfl (by decide +kernel) (by decide +kernel) (by decide +kernel) rfl (fun w0 => ev_len_rd (h := 42) (n := 1) Try.underlying40 rfl rfl rfl (by decide)) rfl rfl (fun w sw => CF.cons (sw.own_rd (h := 101) rfl) (sw.cf (.cons rfl (.cons rfl (.nil _))))) ?_
      refine mxp (i := 2) rfl (by decide +kernel) (by decide +kernel) (by decide +kernel) rfl (fun w0 => ev_neq rfl rfl) rfl rfl (fun w sw => CF.cons (sw.own_rd (h := 101) rfl) (sw.cf (.cons rfl (.cons rfl (.nil _))))) ?_
      refine mxp (i := 3) rfl (by decide +kernel) (by decide +kernel) (by decide +kernel) rfl (fun w0 => ev_move rfl) rfl rfl (fun w sw => CF.cons (sw.own_rd (h := 101) rfl) (sw.cf (.cons rfl (.cons rfl (.nil _))))) ?_
      refine at_eq (i := 39) (v' := .bool false) rfl (by simp only [Value.bool.injEq, decide_eq_true_eq, decide_eq_false_iff_not]; decide) ?_
      refine mxp (i := 4) rfl (by decide +kernel) (by decide +kernel) (by decide +kernel) rfl (fun w0 => ev_move rfl) rfl rfl (fun w sw => CF.cons (sw.own_rd (h := 101) rfl) (sw.cf (.cons rfl (.cons rfl (.nil _))))) ?_
      refine mxp (i := 5) rfl (by decide +kernel) (by decide +kernel) (by decide +kernel) rfl (fun w0 => ev_indexAddr_rd (h := 42) (n := 1) Try.underlying40 ty29 rfl rfl rfl rfl (by decide) (by decide) (by decide)) rfl rfl (fun w sw => CF.cons (sw.own_rd (h := 101) rfl) (sw.cf (.cons rfl (.cons rfl (.nil _))))) ?_
      refine mxp (i := 6) rfl (by decide +kernel) (by decide +kernel) (by decide +kernel) rfl (fun w0 => ev_fieldIn (n := 1) (k := (0 : Int).toNat * 2) Try.underlying29 rfl rfl rfl (fun w1 sw => sw.sl_rd (h := 42) rfl) (Nat.le_of_ble_eq_true rfl) (fun b off hx => ev_fieldAddr (b := _) Try.underlying29 (f := _) rfl ty27 (by decide) hx)) rfl rfl (fun w sw => CF.cons (sw.own_rd (h := 101) rfl) (sw.cf (.cons rfl (.cons rfl (.nil _))))) ?_
      refine mxp (i := 7) rfl (by decide +kernel) (by decide +kernel) (by decide +kernel) rfl (fun w0 => ld_rd1 (k := (0 : Int).toNat * 2 + 1) (h := 42) ty27 rfl rfl rfl rfl) rfl rfl (fun w sw => CF.cons (sw.own_rd (h := 101) rfl) (sw.cf (.cons rfl (.cons rfl (.nil _))))) ?_
      refine mxp (i := 8) rfl (by decide +kernel) (by decide +kernel) (by decide +kernel) rfl (fun w0 => ev_string Try.underlying27 Try.underlying5 Try.underlying9 rfl (fun w1 sw => sw.sl_rd (h := 303) rfl)) rfl rfl (fun w sw => CF.cons (sw.own_rd (h := 101) rfl) (sw.cf (.cons rfl (.cons rfl (.nil _))))) ?_
      refine mxp (i := 9) rfl (by decide +kernel) (by decide +kernel) (by decide +kernel) rfl (fun w0 => ev_move rfl) rfl rfl (fun w sw => CF.cons (sw.own_rd (h := 101) rfl) (sw.cf (.cons rfl (.cons rfl (.nil _))))) ?_
      refine mxp (i := 10) rfl (by decide +kernel) (by decide +kernel) (by decide +kernel) rfl (fun w0 => ev_string Try.underlying27 Try.underlying5 Try.underlying9 rfl (fun w1 sw => sw.sl_rd (h := 22) rfl)) rfl rfl (fun w sw => CF.cons (sw.own_rd (h := 101) rfl) (sw.cf (.cons rfl (.cons rfl (.nil _))))) ?_
      refine mxp (i := 11) rfl (by decide +kernel) (by decide +kernel) (by decide +kernel) rfl (fun w0 => ev_neq_strb rfl rfl hB hB) rfl rfl (fun w sw => CF.cons (sw.own_rd (h := 101) rfl) (sw.cf (.cons rfl (.cons rfl (.nil _))))) ?_
      refine mxp (i := 12) rfl (by decide +kernel) (by decide +kernel) (by decide +kernel) rfl (fun w0 => ev_pick_f rfl rfl) rfl rfl (fun w sw => CF.cons (sw.own_rd (h := 101) rfl) (sw.cf (.cons rfl (.cons rfl (.nil _))))) ?_
      refine mxp_done (by decide +kernel) (fun w sw => CF.cons (sw.own_rd (h := 101) rfl) (sw.cf (.cons rfl (.cons rfl (.nil _))))) ?_
      refine ax_then ?_
      refine At.regs (L' := [(0, _), (2, _), (3, _), (5, _), (48, _)]) (.cons rfl (.cons rfl (.cons rfl (.cons rfl (.cons rfl (.nil _)))))) ?_
      refine cd_if_f rfl (fun h => h rfl) ?_
      refine cd_skip ?_
      refine ax_then ?_
      refine At.regs (L' := [(0, _), (2, _), (3, _), (5, _)]) (.cons rfl (.cons rfl (.cons rfl (.cons rfl (.nil _))))) ?_
      refine cd_seq ?_
      refine cd_region ?_
      refine st (ev_move rfl) rfl rfl rfl ?_
      refine st (ev_indexAddr_rd (h := 42) (n := 1) Try.underlying40 ty29 rfl rfl rfl rfl (by decide) (by decide) (by decide)) rfl rfl rfl ?_
      refine st (ev_fieldIn (n := 1) (k := (0 : Int).toNat * 2) Try.underlying29 rfl rfl rfl (fun w1 sw => sw.sl_rd (h := 42) rfl) (Nat.le_of_ble_eq_true rfl) (fun b off hx => ev_fieldAddr (b := _) Try.underlying29 (f := _) rfl ty27 (by decide) hx)) rfl rfl rfl ?_
      refine st (ld_rd1 (k := (0 : Int).toNat * 2 + 1) (h := 42) ty27 rfl rfl rfl rfl) rfl rfl rfl ?_
      refine st (ev_indexAddr_owni (h := 101) Try.underlying27 ty5 rfl rfl rfl (by omega) (by first | omega | (simp only [List.length_append, List.length_cons, List.length_nil, List.length_set, List.length_replicate, List.length_take, List.length_drop, ints_length, wr_length] <;> omega))) rfl rfl rfl ?_
      refine st (ld_own1 (h := 101) ty5 rfl rfl rfl (ints_get _ _ _ (by first | omega | (simp only [List.length_append, List.length_cons, List.length_nil, List.length_set, List.length_replicate, List.length_take, List.length_drop, ints_length, wr_length] <;> omega) | rfl))) rfl rfl rfl ?_
      refine st (ev_xor rfl rfl) rfl rfl rfl ?_
      refine st (ev_indexAddr_owni (h := 101) Try.underlying27 ty5 rfl rfl rfl (by omega) (by first | omega | (simp only [List.length_append, List.length_cons, List.length_nil, List.length_set, List.length_replicate, List.length_take, List.length_drop, ints_length, wr_length] <;> omega))) rfl rfl rfl ?_
      refine st_store_own (vl := ints .u8 [_]) 101 ty5 rfl rfl rfl rfl (by first | omega | (simp only [List.length_append, List.length_cons, List.length_nil, List.length_set, List.length_replicate, List.length_take, List.length_drop, ints_length, wr_length] <;> omega) | rfl) (ints_one _ _) (by first | omega | (simp only [List.length_append, List.length_cons, List.length_nil, List.length_set, List.length_replicate, List.length_take, List.length_drop, ints_length, wr_length] <;> omega) | rfl) (by decide) rfl ?_
      refine at_heq (i := 101) rfl (by rw [ints_wr]) ?_
      refine op_nil ?_
      refine ax_then ?_
      refine At.regs (L' := [(0, _), (2, _), (3, _)]) (.cons rfl (.cons rfl (.cons rfl (.nil _)))) ?_
      refine cd_seq ?_
      refine cd_region ?_
      refine st (ev_move rfl) rfl rfl rfl ?_
      refine st_call has9 rfl (fun w1 sw => next_ok b19 q28 [(⟨1, v28, data, ((0 + 1 : Nat) : Int)⟩ : Bs.W)] (0 + 1) w1 (Nat.le_of_ble_eq_true rfl) (Nat.le_of_ble_eq_true rfl) (fun y hy => by rw [List.mem_singleton.1 hy]; exact hx28) (sw.blk_eq (h := 0) rfl) (sw.hold 1 _ rfl) (sw.apart 0 _ 1 _ rfl rfl (by decide) _ (by simp [Ent.ids]))) (mod_two rfl rfl) rfl rfl (fun _ _ => ?_)
      refine at_eq (i := 59) (v' := .tuple #[.agg (List.toArray [.int .i64 1, v28]), .bool true]) rfl (by rw [Bs.next1]; rfl) ?_
      refine st (ev_move rfl) rfl rfl rfl ?_
      refine st (ev_extract rfl rfl) rfl rfl rfl ?_
      refine at_eq (i := 60) (v' := .agg (List.toArray [.int .i64 1, v28])) rfl rfl ?_
      refine st (ev_extract rfl rfl) rfl rfl rfl ?_
      refine at_eq (i := 61) (v' := .bool true) rfl rfl ?_
      refine st_alloc (h := 6) ty29 rfl rfl rfl (fun b6 => ?_)
      refine st_store_all 6 ty29 rfl rfl rfl rfl rfl (by intro u0 hu0; simp only [List.mem_cons, List.not_mem_nil, or_false] at hu0; rcases hu0 with rfl | rfl; rfl; exact hx28) rfl rfl ?_
      refine st (ev_assign rfl) rfl rfl rfl ?_
      refine op_nil ?_
      refine ax_then ?_
      refine At.regs (L' := [(0, _), (2, _), (6, _), (7, _)]) (.cons rfl (.cons rfl (.cons rfl (.cons rfl (.nil _))))) ?_
      refine cd_seq ?_
      refine cd_region ?_
      refine st (ev_assign rfl) rfl rfl rfl ?_
      refine op_nil ?_
      refine ax_then ?_
      refine At.regs (L' := [(0, _), (2, _), (6, _), (7, _), (8, _)]) (.cons rfl (.cons rfl (.cons rfl (.cons rfl (.cons rfl (.nil _)))))) ?_
      refine cd_seq ?_
      refine cd_region ?_
      refine st (ev_move rfl) rfl rfl rfl ?_
      refine st_callv has9 rfl (fun w1 sw => next_nil w1) rfl rfl ?_
      refine st (ev_move rfl) rfl rfl rfl ?_
      refine st (ev_extract rfl rfl) rfl rfl rfl ?_
      refine at_eq (i := 65) (v' := .agg (List.toArray [.int .i64 0, .slice none 0 0])) rfl rfl ?_
      refine st (ev_extract rfl rfl) rfl rfl rfl ?_
      refine at_eq (i := 66) (v' := .bool false) rfl rfl ?_
      refine st_alloc (h := 9) ty29 rfl rfl rfl (fun b9 => ?_)
      refine st_store_all 9 ty29 rfl rfl rfl rfl rfl (by intro u0 hu0; simp only [List.mem_cons, List.not_mem_nil, or_false] at hu0; rcases hu0 with rfl | rfl <;> rfl) rfl rfl ?_
      refine st (ev_assign rfl) rfl rfl rfl ?_
      refine op_nil ?_
      refine ax_then ?_
      refine At.regs (L' := [(0, _), (2, _), (6, _), (7, _), (8, _), (10, _)]) (.cons rfl (.cons rfl (.cons rfl (.cons rfl (.cons rfl (.cons rfl (.nil _))))))) ?_
      refine cd_seq ?_
      refine cd_region ?_
      refine st (ev_move rfl) rfl rfl rfl ?_
      refine st (ev_move rfl) rfl rfl rfl ?_
      refine st (ev_fieldAddr (b := _) Try.underlying29 (f := _) rfl ty27 (by decide) rfl) rfl rfl rfl ?_
      refine st (ld_blk1 (h := 6) ty27 rfl rfl rfl rfl) rfl rfl rfl ?_
      refine st (ev_string Try.underlying27 Try.underlying5 Try.underlying9 rfl (fun w1 sw => sw.sl_rd (h := 43) rfl)) rfl rfl rfl ?_
      refine st (ev_move rfl) rfl rfl rfl ?_
      refine st (ev_string Try.underlying27 Try.underlying5 Try.underlying9 rfl (fun w1 sw => sw.sl_rd (h := 22) rfl)) rfl rfl rfl ?_
      refine st (ev_eql_strb rfl rfl hB hB) rfl rfl rfl ?_
      refine st (ev_pick_t rfl rfl) rfl rfl rfl ?_
      refine st (ev_move rfl) rfl rfl rfl ?_
      refine at_eq (i := 76) (v' := .bool true) rfl (by rw [decide_eq_true rfl]) ?_
      refine st (ev_move rfl) rfl rfl rfl ?_
      refine st (ev_build_struct ty29 rfl pl29 rfl fill_nil) rfl rfl rfl ?_
      refine at_eq (i := 78) (v' := .agg (List.toArray [.int .i64 0, .slice none 0 0])) rfl rfl ?_
      refine st_callv has8 rfl (fun w1 sw => send_nil 0 (.slice none 0 0) w1 rfl) rfl rfl ?_
      refine st (ev_eql rfl rfl) rfl rfl rfl ?_
      refine st (ev_pick_t rfl rfl) rfl rfl rfl ?_
      refine st (ev_move rfl) rfl rfl rfl ?_
      refine at_eq (i := 82) (v' := .bool true) rfl (by rw [decide_eq_true rfl]) ?_
      refine st (ev_move rfl) rfl rfl rfl ?_
      refine st (ev_not rfl) rfl rfl rfl ?_
      refine st (ev_pick_t rfl rfl) rfl rfl rfl ?_
      refine st (ev_move rfl) rfl rfl rfl ?_
      refine at_eq (i := 86) (v' := .bool true) rfl (by rfl) ?_
      refine st (ev_move rfl) rfl rfl rfl ?_
      refine st_callv has10 rfl (fun w1 sw => blen_nil w1) rfl rfl ?_
      refine st (ev_eql rfl rfl) rfl rfl rfl ?_
      refine st (ev_pick_t rfl rfl) rfl rfl rfl ?_
      refine st (ev_move rfl) rfl rfl rfl ?_
      refine at_eq (i := 91) (v' := .bool true) rfl (by rw [decide_eq_true rfl]) ?_
      refine st (ev_move rfl) rfl rfl rfl ?_
      refine st_callv has16 rfl (fun w1 sw => list_nil w1) rfl rfl ?_
      refine st (ev_len Try.underlying40 rfl) rfl rfl rfl ?_
      refine st (ev_eql rfl rfl) rfl rfl rfl ?_
      refine st (ev_pick_t rfl rfl) rfl rfl rfl ?_
      refine st (ev_move rfl) rfl rfl rfl ?_
      refine at_eq (i := 97) (v' := .bool true) rfl (by rfl) ?_
      refine st_callv has11 rfl (fun w1 sw => known14_any w1) rfl rfl ?_
      refine st (ev_pick_t rfl rfl) rfl rfl rfl ?_
      refine st (ev_assign rfl) rfl rfl rfl ?_
      refine op_nil ?_
      refine ax_then ?_
      refine At.regs (L' := [(2, _)]) (.cons rfl (.nil _)) ?_
      refine cd_ret ?_
      refine rt_tmp (.inl rfl) Try.results6 rfl ?_
      exact fun w1 sw => ⟨rfl, sw.gives (.nil _)⟩
end Go.Proofs.Ytfddplpljjlgiaa

namespace Go.Proofs.Ytfddplpljjlgiaa
open Go Go.ChangeShapes Go.WideShapes Go.ChangeAt Go.RowKit Fw
set_option linter.unusedVariables false
theorem laid : laidOutB Try.prog = true := by kernel_rfl
namespace busOwn
theorem own : ownKnob Try.prog.godebug = none := by kernel_rfl
set_option maxRecDepth 100000 in
theorem lifted (os : Os) (started : os.Started) (H : Type) (enc : TypeId × Value → H) :
    ReturnsInHanded {} Try.checked os 6 .any (Rows.busOwnSpec.pre6 enc Try.prog Try.f6 Rows.busOwnRow.domain false) (Rows.busOwnSpec.post enc Try.prog Try.f6 false true false false) := by
  refine returnsInHanded_of_change_sized (C := Try.checked) own started (by kernel_rfl) Try.func6
    (ChangeSpec.witness6 (enc := enc) (C := Try.checked) false ⟨#[], #[.slice none 0 0], []⟩ 8 (by kernel_rfl) (by kernel_rfl) (by kernel_rfl) (by kernel_rfl)) ?_
  intro W base args ds gs before hval0 hW hcnd hsz _
  have hval : ∀ (j : Nat) t v, Try.f6.params[j]? = some t → args[j]? = some v → Value.okWide Try.prog W .any base t v := hval0
  have hW' := hW
  obtain ⟨p, q, hA0, hV, rfl, hfz, hnd⟩ := hW
  have hA : DataW.TrodAll enc Try.prog W 0 (fun _ => true) true Try.f6.params.toList args.toList ds p := hA0
  have hk := hA
  have hlt : ∀ x ∈ p, x.block < W.heap.size := fun x hx => hW'.lt x (List.mem_append.2 (.inl hx))
  rw [Try.params6] at hA hval hk
  obtain ⟨v0, vs0, d0, ds0, p0, q0, hargs, rfl, rfl, h0, r0⟩ := trodAll_cons hA
  obtain ⟨rfl, rfl, rfl⟩ := trodAll_nil r0
  obtain rfl : args = #[v0] := by cases args; simp_all
  obtain ⟨rfl, rfl⟩ := trodVars_none hV
  obtain ⟨l0, rd0, m0, b0⟩ := rd_ints Try.underlying27 Try.underlying5 (by kernel_rfl) (hval 0 27 v0 rfl rfl) h0 (light_of (j := 0) hsz rfl rfl)
  have len0 : l0.length ≤ 140737488351232 := by
    have h := m0
    rw [show Try.prog.bytesOf 5 = 1 from by kernel_rfl] at h
    have hr : reachBytes = 140737488351232 := rfl
    omega
  refine (busOwn_any v0 l0 W len0 (wf_byt b0) rd0).mono fun e W' ⟨he, g⟩ => ?_
  subst he
  have bel := g.below
  exact ⟨_, rfl, _, _, _, [], _, [], hW', trodAll_mk1 (shut_bool Try.underlying4 _), all_below laid bel _ _ _ _ (all_rows (by kernel_rfl)) hk hlt (fun x hx => by simpa using hlt x hx), rfl, bel.frame _, fun h => by cases h⟩
theorem over : Rows.busOwnRow.holds Try.pinned (OpenSpec.ofChange Rows.busOwnSpec) :=
  OpenClaim.holds_of_wide 6 Try.f6 rfl rfl rfl rfl rfl rfl rfl ⟨rfl, rfl, rfl, rfl, rfl⟩ rfl rfl rfl rfl rfl (by kernel_rfl) Try.func6 (by kernel_rfl)
    (of_decide_eq_true (by kernel_rfl)) (by unfold Func.isWrapper; first | (rw [if_pos (by decide +kernel)]; kernel_rfl) | (rw [if_neg (by decide +kernel)]; exact ⟨rfl, rfl⟩))
    (fun os started H enc _ => lifted os started H enc)
/-- The statement. -/
theorem proved : Rows.BusOwnSaid := over
end busOwn
end Go.Proofs.Ytfddplpljjlgiaa
