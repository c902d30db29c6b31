/- The statement's proof, part 2: what its walks and its plain laws need. -/
import Derived.Test.YteedclmcgifmpaaRows
import Derived.Tactics
import Derived.Deep.Quiet
import Derived.StillTail
import Derived.Laws.World
import Derived.Laws.Sem
import Derived.Laws.Entries
import Derived.Below
import Derived.Deep.LoopGhost
import Derived.Laws.BytesString
import Derived.Laws.IdiomStrings
import Derived.KernelRfl
import Derived.Carry
import Derived.OpenShut
import Derived.ProofKit
import Derived.ChangeSame
import Derived.HandedShaped
import Derived.SizedLaws
import Derived.Test.YteedclmcgifmpaaProg
import Derived.Test.YteedclmcgifmpaaXt1
namespace Go.Proofs.Yteedclmcgifmpaa
open Go Go.RowKit Fw
open Sha
set_option linter.unusedVariables false
set_option linter.unusedSimpArgs false
set_option maxRecDepth 20000 in
set_option maxHeartbeats 1000000 in
theorem turn_any (x n : Int) (w : World) (h0 : 0 ≤ n) (h1 : n ≤ 32) : Calls Try.prog 112 #[.int .u32 x, .int .u64 n] w (PostV w (.int .u32 (turn x n))) := by
  refine calls_at (vs := [.int .u32 x, .int .u64 n]) (X := []) (H := []) (F := []) 13 Try.func112 rfl rfl rfl (Sat.start0 w) ?_
  refine cd_seq ?_
  refine cd_region ?_
  refine st (ev_assign rfl) rfl rfl rfl ?_
  refine op_nil ?_
  refine ax_then ?_
  refine At.regs (L' := [(0, _), (1, _), (4, _)]) (.cons rfl (.cons rfl (.cons rfl (.nil _)))) ?_
  refine cd_seq ?_
  refine cd_region ?_
  refine st (ev_move rfl) rfl rfl rfl ?_
  refine st (ev_move rfl) rfl rfl rfl ?_
  refine st (ev_shr rfl rfl (by omega)) rfl rfl rfl ?_
  refine st (ev_move rfl) rfl rfl rfl ?_
  refine st (ev_move rfl) rfl rfl rfl ?_
  refine st (ev_subu64 rfl rfl (by omega) (by omega)) rfl rfl rfl ?_
  refine st (ev_shl rfl rfl (by omega)) rfl rfl rfl ?_
  refine st (ev_or rfl rfl) rfl rfl rfl ?_
  refine st (ev_assign rfl) rfl rfl rfl ?_
  refine op_nil ?_
  refine ax_then ?_
  refine At.regs (L' := [(4, _)]) (.cons rfl (.nil _)) ?_
  refine cd_ret ?_
  refine rt_tmp (.inl rfl) Try.results112 rfl ?_
  exact fun w1 sw => ⟨rfl, sw.gives (.nil _)⟩
set_option maxRecDepth 20000 in
set_option maxHeartbeats 1000000 in
theorem r_any (x n : Int) (w : World) (h0 : 0 ≤ n) (h1 : n ≤ 32) : Calls Try.prog 103 #[.int .u32 x, .int .u64 n] w (PostV w (.int .u32 (turn x n))) := by
  refine calls_at (vs := [.int .u32 x, .int .u64 n]) (X := []) (H := []) (F := []) 13 Try.func103 rfl rfl rfl (Sat.start0 w) ?_
  refine cd_seq ?_
  refine cd_region ?_
  refine st (ev_assign rfl) rfl rfl rfl ?_
  refine op_nil ?_
  refine ax_then ?_
  refine At.regs (L' := [(0, _), (1, _), (4, _)]) (.cons rfl (.cons rfl (.cons rfl (.nil _)))) ?_
  refine cd_seq ?_
  refine cd_region ?_
  refine st (ev_move rfl) rfl rfl rfl ?_
  refine st (ev_move rfl) rfl rfl rfl ?_
  refine st (ev_shr rfl rfl (by omega)) rfl rfl rfl ?_
  refine st (ev_move rfl) rfl rfl rfl ?_
  refine st (ev_move rfl) rfl rfl rfl ?_
  refine st (ev_subu64 rfl rfl (by omega) (by omega)) rfl rfl rfl ?_
  refine st (ev_shl rfl rfl (by omega)) rfl rfl rfl ?_
  refine st (ev_or rfl rfl) rfl rfl rfl ?_
  refine st (ev_assign rfl) rfl rfl rfl ?_
  refine op_nil ?_
  refine ax_then ?_
  refine At.regs (L' := [(4, _)]) (.cons rfl (.nil _)) ?_
  refine cd_ret ?_
  refine rt_tmp (.inl rfl) Try.results103 rfl ?_
  exact fun w1 sw => ⟨rfl, sw.gives (.nil _)⟩
set_option maxRecDepth 20000 in
set_option maxHeartbeats 1000000 in
theorem s0_any (x : Int) (w : World) : Calls Try.prog 104 #[.int .u32 x] w (PostV w (.int .u32 (s0 x))) := by
  refine calls_at (vs := [.int .u32 x]) (X := []) (H := []) (F := []) 11 Try.func104 rfl rfl rfl (Sat.start0 w) ?_
  refine cd_seq ?_
  refine cd_region ?_
  refine st (ev_assign rfl) rfl rfl rfl ?_
  refine op_nil ?_
  refine ax_then ?_
  refine At.regs (L' := [(0, _), (2, _)]) (.cons rfl (.cons rfl (.nil _))) ?_
  refine cd_seq ?_
  refine cd_region ?_
  refine st (ev_move rfl) rfl rfl rfl ?_
  refine st_callv has112 rfl (fun w1 sw => turn_any _ _ w1 (by omega) (by omega)) rfl rfl ?_
  refine st (ev_move rfl) rfl rfl rfl ?_
  refine st_callv has112 rfl (fun w1 sw => turn_any _ _ w1 (by omega) (by omega)) rfl rfl ?_
  refine st (ev_xor rfl rfl) rfl rfl rfl ?_
  refine st (ev_move rfl) rfl rfl rfl ?_
  refine st (ev_shr rfl rfl (by omega)) rfl rfl rfl ?_
  refine st (ev_xor rfl rfl) rfl rfl rfl ?_
  refine st (ev_assign rfl) rfl rfl rfl ?_
  refine op_nil ?_
  refine ax_then ?_
  refine At.regs (L' := [(2, _)]) (.cons rfl (.nil _)) ?_
  refine cd_ret ?_
  refine rt_tmp (.inl rfl) Try.results104 rfl ?_
  exact fun w1 sw => ⟨rfl, sw.gives (.nil _)⟩
set_option maxRecDepth 20000 in
set_option maxHeartbeats 1000000 in
theorem s1_any (x : Int) (w : World) : Calls Try.prog 105 #[.int .u32 x] w (PostV w (.int .u32 (s1 x))) := by
  refine calls_at (vs := [.int .u32 x]) (X := []) (H := []) (F := []) 11 Try.func105 rfl rfl rfl (Sat.start0 w) ?_
  refine cd_seq ?_
  refine cd_region ?_
  refine st (ev_assign rfl) rfl rfl rfl ?_
  refine op_nil ?_
  refine ax_then ?_
  refine At.regs (L' := [(0, _), (2, _)]) (.cons rfl (.cons rfl (.nil _))) ?_
  refine cd_seq ?_
  refine cd_region ?_
  refine st (ev_move rfl) rfl rfl rfl ?_
  refine st_callv has112 rfl (fun w1 sw => turn_any _ _ w1 (by omega) (by omega)) rfl rfl ?_
  refine st (ev_move rfl) rfl rfl rfl ?_
  refine st_callv has112 rfl (fun w1 sw => turn_any _ _ w1 (by omega) (by omega)) rfl rfl ?_
  refine st (ev_xor rfl rfl) rfl rfl rfl ?_
  refine st (ev_move rfl) rfl rfl rfl ?_
  refine st (ev_shr rfl rfl (by omega)) rfl rfl rfl ?_
  refine st (ev_xor rfl rfl) rfl rfl rfl ?_
  refine st (ev_assign rfl) rfl rfl rfl ?_
  refine op_nil ?_
  refine ax_then ?_
  refine At.regs (L' := [(2, _)]) (.cons rfl (.nil _)) ?_
  refine cd_ret ?_
  refine rt_tmp (.inl rfl) Try.results105 rfl ?_
  exact fun w1 sw => ⟨rfl, sw.gives (.nil _)⟩
set_option maxRecDepth 20000 in
set_option maxHeartbeats 1000000 in
theorem b0_any (x : Int) (w : World) : Calls Try.prog 108 #[.int .u32 x] w (PostV w (.int .u32 (b0 x))) := by
  refine calls_at (vs := [.int .u32 x]) (X := []) (H := []) (F := []) 11 Try.func108 rfl rfl rfl (Sat.start0 w) ?_
  refine cd_seq ?_
  refine cd_region ?_
  refine st (ev_assign rfl) rfl rfl rfl ?_
  refine op_nil ?_
  refine ax_then ?_
  refine At.regs (L' := [(0, _), (2, _)]) (.cons rfl (.cons rfl (.nil _))) ?_
  refine cd_seq ?_
  refine cd_region ?_
  refine st (ev_move rfl) rfl rfl rfl ?_
  refine st_callv has112 rfl (fun w1 sw => turn_any _ _ w1 (by omega) (by omega)) rfl rfl ?_
  refine st (ev_move rfl) rfl rfl rfl ?_
  refine st_callv has112 rfl (fun w1 sw => turn_any _ _ w1 (by omega) (by omega)) rfl rfl ?_
  refine st (ev_xor rfl rfl) rfl rfl rfl ?_
  refine st (ev_move rfl) rfl rfl rfl ?_
  refine st_callv has112 rfl (fun w1 sw => turn_any _ _ w1 (by omega) (by omega)) rfl rfl ?_
  refine st (ev_xor rfl rfl) rfl rfl rfl ?_
  refine st (ev_assign rfl) rfl rfl rfl ?_
  refine op_nil ?_
  refine ax_then ?_
  refine At.regs (L' := [(2, _)]) (.cons rfl (.nil _)) ?_
  refine cd_ret ?_
  refine rt_tmp (.inl rfl) Try.results108 rfl ?_
  exact fun w1 sw => ⟨rfl, sw.gives (.nil _)⟩
set_option maxRecDepth 20000 in
set_option maxHeartbeats 1000000 in
theorem b1_any (x : Int) (w : World) : Calls Try.prog 106 #[.int .u32 x] w (PostV w (.int .u32 (b1 x))) := by
  refine calls_at (vs := [.int .u32 x]) (X := []) (H := []) (F := []) 11 Try.func106 rfl rfl rfl (Sat.start0 w) ?_
  refine cd_seq ?_
  refine cd_region ?_
  refine st (ev_assign rfl) rfl rfl rfl ?_
  refine op_nil ?_
  refine ax_then ?_
  refine At.regs (L' := [(0, _), (2, _)]) (.cons rfl (.cons rfl (.nil _))) ?_
  refine cd_seq ?_
  refine cd_region ?_
  refine st (ev_move rfl) rfl rfl rfl ?_
  refine st_callv has112 rfl (fun w1 sw => turn_any _ _ w1 (by omega) (by omega)) rfl rfl ?_
  refine st (ev_move rfl) rfl rfl rfl ?_
  refine st_callv has112 rfl (fun w1 sw => turn_any _ _ w1 (by omega) (by omega)) rfl rfl ?_
  refine st (ev_xor rfl rfl) rfl rfl rfl ?_
  refine st (ev_move rfl) rfl rfl rfl ?_
  refine st_callv has112 rfl (fun w1 sw => turn_any _ _ w1 (by omega) (by omega)) rfl rfl ?_
  refine st (ev_xor rfl rfl) rfl rfl rfl ?_
  refine st (ev_assign rfl) rfl rfl rfl ?_
  refine op_nil ?_
  refine ax_then ?_
  refine At.regs (L' := [(2, _)]) (.cons rfl (.nil _)) ?_
  refine cd_ret ?_
  refine rt_tmp (.inl rfl) Try.results106 rfl ?_
  exact fun w1 sw => ⟨rfl, sw.gives (.nil _)⟩
set_option maxRecDepth 20000 in
set_option maxHeartbeats 1000000 in
theorem ch_any (x y z : Int) (w : World) : Calls Try.prog 107 #[.int .u32 x, .int .u32 y, .int .u32 z] w (PostV w (.int .u32 (ch x y z))) := by
  refine calls_at (vs := [.int .u32 x, .int .u32 y, .int .u32 z]) (X := []) (H := []) (F := []) 15 Try.func107 rfl rfl rfl (Sat.start0 w) ?_
  refine cd_seq ?_
  refine cd_region ?_
  refine st (ev_assign rfl) rfl rfl rfl ?_
  refine op_nil ?_
  refine ax_then ?_
  refine At.regs (L' := [(0, _), (1, _), (2, _), (6, _)]) (.cons rfl (.cons rfl (.cons rfl (.cons rfl (.nil _))))) ?_
  refine cd_seq ?_
  refine cd_region ?_
  refine st (ev_move rfl) rfl rfl rfl ?_
  refine st (ev_move rfl) rfl rfl rfl ?_
  refine st (ev_and rfl rfl) rfl rfl rfl ?_
  refine st (ev_move rfl) rfl rfl rfl ?_
  refine st (ev_inot rfl) rfl rfl rfl ?_
  refine st (ev_move rfl) rfl rfl rfl ?_
  refine st (ev_and rfl rfl) rfl rfl rfl ?_
  refine st (ev_xor rfl rfl) rfl rfl rfl ?_
  refine st (ev_assign rfl) rfl rfl rfl ?_
  refine op_nil ?_
  refine ax_then ?_
  refine At.regs (L' := [(6, _)]) (.cons rfl (.nil _)) ?_
  refine cd_ret ?_
  refine rt_tmp (.inl rfl) Try.results107 rfl ?_
  exact fun w1 sw => ⟨rfl, sw.gives (.nil _)⟩
set_option maxRecDepth 20000 in
set_option maxHeartbeats 1000000 in
theorem mj_any (x y z : Int) (w : World) : Calls Try.prog 109 #[.int .u32 x, .int .u32 y, .int .u32 z] w (PostV w (.int .u32 (mj x y z))) := by
  refine calls_at (vs := [.int .u32 x, .int .u32 y, .int .u32 z]) (X := []) (H := []) (F := []) 18 Try.func109 rfl rfl rfl (Sat.start0 w) ?_
  refine cd_seq ?_
  refine cd_region ?_
  refine st (ev_assign rfl) rfl rfl rfl ?_
  refine op_nil ?_
  refine ax_then ?_
  refine At.regs (L' := [(0, _), (1, _), (2, _), (6, _)]) (.cons rfl (.cons rfl (.cons rfl (.cons rfl (.nil _))))) ?_
  refine cd_seq ?_
  refine cd_region ?_
  refine st (ev_move rfl) rfl rfl rfl ?_
  refine st (ev_move rfl) rfl rfl rfl ?_
  refine st (ev_and rfl rfl) rfl rfl rfl ?_
  refine st (ev_move rfl) rfl rfl rfl ?_
  refine st (ev_move rfl) rfl rfl rfl ?_
  refine st (ev_and rfl rfl) rfl rfl rfl ?_
  refine st (ev_xor rfl rfl) rfl rfl rfl ?_
  refine st (ev_move rfl) rfl rfl rfl ?_
  refine st (ev_move rfl) rfl rfl rfl ?_
  refine st (ev_and rfl rfl) rfl rfl rfl ?_
  refine st (ev_xor rfl rfl) rfl rfl rfl ?_
  refine st (ev_assign rfl) rfl rfl rfl ?_
  refine op_nil ?_
  refine ax_then ?_
  refine At.regs (L' := [(6, _)]) (.cons rfl (.nil _)) ?_
  refine cd_ret ?_
  refine rt_tmp (.inl rfl) Try.results109 rfl ?_
  exact fun w1 sw => ⟨rfl, sw.gives (.nil _)⟩
set_option maxRecDepth 20000 in
set_option maxHeartbeats 4000000 in
theorem take_any (bs bk TS : Nat) (p : Value) (s b k : List Int) (w : World) (hs : s.length = 8) (hk : k.length = 64) (hb : 64 ≤ b.length) (h1 : w.heap[bs]? = some (.cells (ints .u32 s).toArray TS)) (h2 : Rd w p 1 (ints .u8 b)) (h3 : Lies w bk 0 (ints .u32 k)) (h4 : bs ∉ blkOf p) (h5 : bs ≠ bk) : Calls Try.prog 101 #[.pointer (some ⟨bs, 0, none⟩), p, .pointer (some ⟨bk, 0, none⟩)] w (Post (ι := Unit) w [bs] (fun _ => True) (fun _ => .tuple #[]) (fun _ => [(0, .blk bs (.cells (ints .u32 (comp k s b)).toArray TS))])) := by
  refine calls_at (vs := [.pointer (some ⟨bs, 0, none⟩), p, .pointer (some ⟨bk, 0, none⟩)]) (X := [bs]) (H := [(0, .blk bs (.cells (ints .u32 (s)).toArray TS))]) (F := [(1, .sl p 1 (ints .u8 b)), (2, .mem bk 0 (ints .u32 k))]) 157 Try.func101 rfl rfl rfl (((Sat.blk0 w 0 bs _ h1).read 2 (f := .mem bk 0 (ints .u32 k)) h3 (off_one fun b hb => .inr (by rw [mem_one hb]; exact h5))).read 1 (f := .sl p 1 (ints .u8 b)) h2 (off_one fun b hb => .inr (by rw [mem_one hb]; exact h4))) ?_
  refine cd_seq ?_
  refine cd_region ?_
  refine st_alloc (h := 6) ty128 rfl rfl rfl (fun b6 => ?_)
  refine op_nil ?_
  refine ax_then ?_
  refine At.regs (L' := [(0, _), (1, _), (2, _), (6, _)]) (.cons rfl (.cons rfl (.cons rfl (.cons rfl (.nil _))))) ?_
  refine cd_seq ?_
  refine cd_seq ?_
  refine cd_region ?_
  refine st (ev_move rfl) rfl rfl rfl ?_
  refine op_nil ?_
  refine ax_then ?_
  refine At.regs (L' := [(0, _), (1, _), (2, _), (6, _), (14, _)]) (.cons rfl (.cons rfl (.cons rfl (.cons rfl (.cons rfl (.nil _)))))) ?_
  refine cd_block ?_
  refine cd_loop (ι := Nat) (fun i => i ≤ 16) (fun i => 16 - i)
      (fun i => [(0, .pointer (some ⟨bs, 0, none⟩)), (1, p), (2, .pointer (some ⟨bk, 0, none⟩)), (6, .pointer (some ⟨b6, 0, none⟩)), (14, .int .i64 (i : Int))])
      (fun i => [(0, .blk bs (.cells (ints .u32 (s)).toArray TS)), (6, .blk b6 (.cells (ints .u32 (w1 b i)).toArray 128))])
      (fun i => [(1, .sl p 1 (ints .u8 b)), (2, .mem bk 0 (ints .u32 k))])
      0 (by omega) (.cons rfl (.cons rfl (.cons rfl (.cons rfl (.cons rfl (.nil _)))))) (.cons rfl (.cons rfl (.nil _))) (.cons rfl (.cons rfl (.nil _))) (fun i hi => ?_)
  have hw1 := w1_len b i
  refine cd_seq ?_
  refine cd_region ?_
  refine st (ev_lss rfl rfl) rfl rfl rfl ?_
  refine op_nil ?_
  refine ax_then ?_
  refine At.regs (L' := [(0, _), (1, _), (2, _), (6, _), (14, _), (15, _)]) (.cons rfl (.cons rfl (.cons rfl (.cons rfl (.cons rfl (.cons rfl (.nil _))))))) ?_
  refine cd_seq ?_
  refine cd_if rfl (fun hc15 => ?_) (fun hc15 => ?_)
  ·
    refine cd_skip ?_
    refine ax_then ?_
    refine At.regs (L' := [(0, _), (1, _), (2, _), (6, _), (14, _), (15, _)]) (.cons rfl (.cons rfl (.cons rfl (.cons rfl (.cons rfl (.cons rfl (.nil _))))))) ?_
    refine cd_seq ?_
    refine cd_block ?_
    refine cd_seq ?_
    refine cd_region ?_
    refine st (ev_move rfl) rfl rfl rfl ?_
    refine st (ev_assign rfl) rfl rfl rfl ?_
    refine op_nil ?_
    refine ax_then ?_
    refine At.regs (L' := [(0, _), (1, _), (2, _), (6, _), (7, _), (14, _), (15, _), (16, _)]) (.cons rfl (.cons rfl (.cons rfl (.cons rfl (.cons rfl (.cons rfl (.cons rfl (.cons rfl (.nil _))))))))) ?_
    refine cd_open_tail 34 hmix (by decide +kernel) ?_
    refine qt (ev_move rfl) rfl rfl rfl ?_
    refine qt (ev_move rfl) rfl rfl rfl ?_
    refine qt (ev_move rfl) rfl rfl rfl ?_
    refine qt (ev_mul64 rfl rfl (by omega) (by omega)) rfl rfl rfl ?_
    refine qt (ev_indexAddr_rdi (h := 1) Try.underlying22 ty5 rfl rfl rfl (by omega) (by first | omega | (simp only [List.length_append, List.length_cons, List.length_nil, List.length_set, List.length_replicate, List.length_take, List.length_drop, ints_length, wr_length] <;> omega))) rfl rfl rfl ?_
    refine qt (ld_rd1 (h := 1) ty5 rfl rfl rfl (ints_get _ _ _ (by first | omega | (simp only [List.length_append, List.length_cons, List.length_nil, List.length_set, List.length_replicate, List.length_take, List.length_drop, ints_length, wr_length] <;> omega) | rfl))) rfl rfl rfl ?_
    refine qt (ev_conv Try.underlying5 Try.underlying126 rfl) rfl rfl rfl ?_
    refine qt (ev_shl rfl rfl (by omega)) rfl rfl rfl ?_
    refine qt (ev_move rfl) rfl rfl rfl ?_
    refine qt (ev_move rfl) rfl rfl rfl ?_
    refine qt (ev_mul64 rfl rfl (by omega) (by omega)) rfl rfl rfl ?_
    refine qt (ev_add64 rfl rfl (by omega) (by omega)) rfl rfl rfl ?_
    refine qt (ev_indexAddr_rdi (h := 1) Try.underlying22 ty5 rfl rfl rfl (by omega) (by first | omega | (simp only [List.length_append, List.length_cons, List.length_nil, List.length_set, List.length_replicate, List.length_take, List.length_drop, ints_length, wr_length] <;> omega))) rfl rfl rfl ?_
    refine qt (ld_rd1 (h := 1) ty5 rfl rfl rfl (ints_get _ _ _ (by first | omega | (simp only [List.length_append, List.length_cons, List.length_nil, List.length_set, List.length_replicate, List.length_take, List.length_drop, ints_length, wr_length] <;> omega) | rfl))) rfl rfl rfl ?_
    refine qt (ev_conv Try.underlying5 Try.underlying126 rfl) rfl rfl rfl ?_
    refine qt (ev_shl rfl rfl (by omega)) rfl rfl rfl ?_
    refine qt (ev_or rfl rfl) rfl rfl rfl ?_
    refine qt (ev_move rfl) rfl rfl rfl ?_
    refine qt (ev_move rfl) rfl rfl rfl ?_
    refine qt (ev_mul64 rfl rfl (by omega) (by omega)) rfl rfl rfl ?_
    refine qt (ev_add64 rfl rfl (by omega) (by omega)) rfl rfl rfl ?_
    refine qt (ev_indexAddr_rdi (h := 1) Try.underlying22 ty5 rfl rfl rfl (by omega) (by first | omega | (simp only [List.length_append, List.length_cons, List.length_nil, List.length_set, List.length_replicate, List.length_take, List.length_drop, ints_length, wr_length] <;> omega))) rfl rfl rfl ?_
    refine qt (ld_rd1 (h := 1) ty5 rfl rfl rfl (ints_get _ _ _ (by first | omega | (simp only [List.length_append, List.length_cons, List.length_nil, List.length_set, List.length_replicate, List.length_take, List.length_drop, ints_length, wr_length] <;> omega) | rfl))) rfl rfl rfl ?_
    refine qt (ev_conv Try.underlying5 Try.underlying126 rfl) rfl rfl rfl ?_
    refine qt (ev_shl rfl rfl (by omega)) rfl rfl rfl ?_
    refine qt (ev_or rfl rfl) rfl rfl rfl ?_
    refine qt (ev_move rfl) rfl rfl rfl ?_
    refine qt (ev_move rfl) rfl rfl rfl ?_
    refine qt (ev_mul64 rfl rfl (by omega) (by omega)) rfl rfl rfl ?_
    refine qt (ev_add64 rfl rfl (by omega) (by omega)) rfl rfl rfl ?_
    refine qt (ev_indexAddr_rdi (h := 1) Try.underlying22 ty5 rfl rfl rfl (by omega) (by first | omega | (simp only [List.length_append, List.length_cons, List.length_nil, List.length_set, List.length_replicate, List.length_take, List.length_drop, ints_length, wr_length] <;> omega))) rfl rfl rfl ?_
    refine qt (ld_rd1 (h := 1) ty5 rfl rfl rfl (ints_get _ _ _ (by first | omega | (simp only [List.length_append, List.length_cons, List.length_nil, List.length_set, List.length_replicate, List.length_take, List.length_drop, ints_length, wr_length] <;> omega) | rfl))) rfl rfl rfl ?_
    refine qt (ev_conv Try.underlying5 Try.underlying126 rfl) rfl rfl rfl ?_
    refine qt (ev_or rfl rfl) rfl rfl rfl ?_
    refine qt_end ?_
    refine st (ev_indexAddr_arr Try.underlying128 ty126 rfl rfl (by omega) (by omega)) rfl rfl rfl ?_
    refine st_store1 6 ty126 rfl rfl rfl rfl (by first | omega | (simp only [List.length_append, List.length_cons, List.length_nil, List.length_set, List.length_replicate, List.length_take, List.length_drop, ints_length, wr_length] <;> omega) | rfl) rfl ?_
    refine at_heq (i := 6) rfl (by rw [ints_set]) ?_
    refine op_nil ?_
    refine ax_block ?_
    refine ax_then ?_
    refine At.regs (L' := [(0, _), (1, _), (2, _), (6, _), (7, _), (14, _), (15, _), (16, _), (17, _), (18, _), (19, _), (20, _), (21, _), (22, _), (23, _), (24, _), (25, _), (26, _), (27, _), (28, _), (29, _), (30, _), (31, _), (32, _), (33, _), (34, _), (35, _), (36, _), (37, _), (38, _), (39, _), (40, _), (41, _), (42, _), (43, _), (44, _), (45, _), (46, _), (47, _), (48, _), (49, _), (50, _), (51, _)]) (.cons rfl (.cons rfl (.cons rfl (.cons rfl (.cons rfl (.cons rfl (.cons rfl (.cons rfl (.cons rfl (.cons rfl (.cons rfl (.cons rfl (.cons rfl (.cons rfl (.cons rfl (.cons rfl (.cons rfl (.cons rfl (.cons rfl (.cons rfl (.cons rfl (.cons rfl (.cons rfl (.cons rfl (.cons rfl (.cons rfl (.cons rfl (.cons rfl (.cons rfl (.cons rfl (.cons rfl (.cons rfl (.cons rfl (.cons rfl (.cons rfl (.cons rfl (.cons rfl (.cons rfl (.cons rfl (.cons rfl (.cons rfl (.cons rfl (.cons rfl (.nil _)))))))))))))))))))))))))))))))))))))))))))) ?_
    refine cd_region ?_
    refine st (ev_add64 rfl rfl (by omega) (by omega)) rfl rfl rfl ?_
    refine st (ev_move rfl) rfl rfl rfl ?_
    refine op_nil ?_
    have e0 : 0 + (i : Int).toNat * 1 = i := by omega
    have e1 : (4 * (i : Int)).toNat * 1 = 4 * i := by omega
    have e2 : (4 * (i : Int) + 1).toNat * 1 = 4 * i + 1 := by omega
    have e3 : (4 * (i : Int) + 2).toNat * 1 = 4 * i + 2 := by omega
    have e4 : (4 * (i : Int) + 3).toNat * 1 = 4 * i + 3 := by omega
    refine ax_heq (i := 6) (v' := .blk b6 (.cells (ints .u32 (w1 b (i + 1))).toArray 128)) rfl (by simp only [e0, e1, e2, e3, e4]; rfl) ?_
    exact at_again (i + 1) (by omega) (by omega) (.cons rfl (.cons rfl (.cons rfl (.cons rfl (.cons rfl (.nil _)))))) (.cons rfl (.cons rfl (.nil _))) (.cons rfl (.cons rfl (.nil _)))
  ·
    obtain rfl : i = 16 := by omega
    refine cd_exit ?_
    refine ax_then_exit ?_
    refine ax_then_exit ?_
    refine ax_block_hit ?_
    refine ax_then ?_
    refine At.regs (L' := [(0, _), (2, _), (6, _)]) (.cons rfl (.cons rfl (.cons rfl (.nil _)))) ?_
    refine cd_seq ?_
    refine cd_seq ?_
    refine cd_region ?_
    refine st (ev_assign rfl) rfl rfl rfl ?_
    refine op_nil ?_
    refine ax_then ?_
    refine At.regs (L' := [(0, _), (2, _), (6, _), (8, _)]) (.cons rfl (.cons rfl (.cons rfl (.cons rfl (.nil _))))) ?_
    refine cd_block ?_
    refine cd_loop (ι := Nat) (fun i => i ≤ 48) (fun i => 48 - i)
        (fun i => [(0, .pointer (some ⟨bs, 0, none⟩)), (2, .pointer (some ⟨bk, 0, none⟩)), (6, .pointer (some ⟨b6, 0, none⟩)), (8, .int .i64 (16 + (i : Int)))])
        (fun i => [(0, .blk bs (.cells (ints .u32 (s)).toArray TS)), (6, .blk b6 (.cells (ints .u32 (w2 (w1 b 16) i)).toArray 128))])
        (fun i => [(1, .sl p 1 (ints .u8 b)), (2, .mem bk 0 (ints .u32 k))])
        0 (by omega) (.cons rfl (.cons rfl (.cons rfl (.cons rfl (.nil _))))) (.cons rfl (.cons rfl (.nil _))) (.cons rfl (.cons rfl (.nil _))) (fun i hi => ?_)
    have hw2 := w2_len (w1 b 16) i
    rw [w1_len] at hw2
    refine cd_seq ?_
    refine cd_seq ?_
    refine cd_region ?_
    refine st (ev_move rfl) rfl rfl rfl ?_
    refine st (ev_lss rfl rfl) rfl rfl rfl ?_
    refine op_nil ?_
    refine ax_then ?_
    refine At.regs (L' := [(0, _), (2, _), (6, _), (8, _), (53, _), (54, _)]) (.cons rfl (.cons rfl (.cons rfl (.cons rfl (.cons rfl (.cons rfl (.nil _))))))) ?_
    refine cd_if rfl (fun hc54 => ?_) (fun hc54 => ?_)
    ·
      refine cd_skip ?_
      refine ax_then ?_
      refine At.regs (L' := [(0, _), (2, _), (6, _), (8, _), (53, _), (54, _)]) (.cons rfl (.cons rfl (.cons rfl (.cons rfl (.cons rfl (.cons rfl (.nil _))))))) ?_
      refine cd_seq ?_
      refine cd_block ?_
      refine cd_open_tail 22 hmix (by decide +kernel) ?_
      refine qt (ev_move rfl) rfl rfl rfl ?_
      refine qt (ev_move rfl) rfl rfl rfl ?_
      refine qt (ev_sub64 rfl rfl (by omega) (by omega)) rfl rfl rfl ?_
      refine qt (ev_indexAddr_arr Try.underlying128 ty126 rfl rfl (by omega) (by omega)) rfl rfl rfl ?_
      refine qt (ld_blk1 (h := 6) ty126 rfl rfl rfl (ints_get _ _ _ (by first | omega | (simp only [List.length_append, List.length_cons, List.length_nil, List.length_set, List.length_replicate, List.length_take, List.length_drop, ints_length, wr_length] <;> omega) | rfl))) rfl rfl rfl ?_
      refine qt (ev_move rfl) rfl rfl rfl ?_
      refine qt (ev_sub64 rfl rfl (by omega) (by omega)) rfl rfl rfl ?_
      refine qt (ev_indexAddr_arr Try.underlying128 ty126 rfl rfl (by omega) (by omega)) rfl rfl rfl ?_
      refine qt (ld_blk1 (h := 6) ty126 rfl rfl rfl (ints_get _ _ _ (by first | omega | (simp only [List.length_append, List.length_cons, List.length_nil, List.length_set, List.length_replicate, List.length_take, List.length_drop, ints_length, wr_length] <;> omega) | rfl))) rfl rfl rfl ?_
      refine qt_callv has104 rfl (fun w1 sw => s0_any _ w1) rfl rfl ?_
      refine qt (ev_add rfl rfl) rfl rfl rfl ?_
      refine qt (ev_move rfl) rfl rfl rfl ?_
      refine qt (ev_sub64 rfl rfl (by omega) (by omega)) rfl rfl rfl ?_
      refine qt (ev_indexAddr_arr Try.underlying128 ty126 rfl rfl (by omega) (by omega)) rfl rfl rfl ?_
      refine qt (ld_blk1 (h := 6) ty126 rfl rfl rfl (ints_get _ _ _ (by first | omega | (simp only [List.length_append, List.length_cons, List.length_nil, List.length_set, List.length_replicate, List.length_take, List.length_drop, ints_length, wr_length] <;> omega) | rfl))) rfl rfl rfl ?_
      refine qt (ev_add rfl rfl) rfl rfl rfl ?_
      refine qt (ev_move rfl) rfl rfl rfl ?_
      refine qt (ev_sub64 rfl rfl (by omega) (by omega)) rfl rfl rfl ?_
      refine qt (ev_indexAddr_arr Try.underlying128 ty126 rfl rfl (by omega) (by omega)) rfl rfl rfl ?_
      refine qt (ld_blk1 (h := 6) ty126 rfl rfl rfl (ints_get _ _ _ (by first | omega | (simp only [List.length_append, List.length_cons, List.length_nil, List.length_set, List.length_replicate, List.length_take, List.length_drop, ints_length, wr_length] <;> omega) | rfl))) rfl rfl rfl ?_
      refine qt_callv has105 rfl (fun w1 sw => s1_any _ w1) rfl rfl ?_
      refine qt (ev_add rfl rfl) rfl rfl rfl ?_
      refine qt_end ?_
      refine st (ev_indexAddr_arr Try.underlying128 ty126 rfl rfl (by omega) (by omega)) rfl rfl rfl ?_
      refine st_store1 6 ty126 rfl rfl rfl rfl (by first | omega | (simp only [List.length_append, List.length_cons, List.length_nil, List.length_set, List.length_replicate, List.length_take, List.length_drop, ints_length, wr_length] <;> omega) | rfl) rfl ?_
      refine at_heq (i := 6) rfl (by rw [ints_set]) ?_
      refine op_nil ?_
      refine ax_block ?_
      refine ax_then ?_
      refine At.regs (L' := [(0, _), (2, _), (6, _), (8, _), (53, _), (54, _), (57, _), (58, _), (59, _), (60, _), (61, _), (62, _), (63, _), (64, _), (65, _), (66, _), (67, _), (68, _), (69, _), (70, _), (71, _), (72, _), (73, _), (74, _), (75, _), (76, _), (77, _), (78, _), (79, _)]) (.cons rfl (.cons rfl (.cons rfl (.cons rfl (.cons rfl (.cons rfl (.cons rfl (.cons rfl (.cons rfl (.cons rfl (.cons rfl (.cons rfl (.cons rfl (.cons rfl (.cons rfl (.cons rfl (.cons rfl (.cons rfl (.cons rfl (.cons rfl (.cons rfl (.cons rfl (.cons rfl (.cons rfl (.cons rfl (.cons rfl (.cons rfl (.cons rfl (.cons rfl (.nil _)))))))))))))))))))))))))))))) ?_
      refine cd_region ?_
      refine st (ev_move rfl) rfl rfl rfl ?_
      refine st (ev_add64 rfl rfl (by omega) (by omega)) rfl rfl rfl ?_
      refine st (ev_assign rfl) rfl rfl rfl ?_
      refine op_nil ?_
      have e0 : 0 + (16 + (i : Int)).toNat * 1 = 16 + i := by omega
      have e1 : 0 + (16 + (i : Int) - 16).toNat * 1 = 16 + i - 16 := by omega
      have e2 : 0 + (16 + (i : Int) - 15).toNat * 1 = 16 + i - 15 := by omega
      have e3 : 0 + (16 + (i : Int) - 7).toNat * 1 = 16 + i - 7 := by omega
      have e4 : 0 + (16 + (i : Int) - 2).toNat * 1 = 16 + i - 2 := by omega
      refine ax_heq (i := 6) (v' := .blk b6 (.cells (ints .u32 (w2 (w1 b 16) (i + 1))).toArray 128)) rfl (by simp only [e0, e1, e2, e3, e4]; rfl) ?_
      exact at_again (i + 1) (by omega) (by omega) (.cons rfl (.cons rfl (.cons rfl (.cons rfl (.nil _))))) (.cons rfl (.cons rfl (.nil _))) (.cons rfl (.cons rfl (.nil _)))
    ·
      obtain rfl : i = 48 := by omega
      refine cd_exit ?_
      refine ax_then_exit ?_
      refine ax_then_exit ?_
      refine ax_block_hit ?_
      refine ax_then ?_
      refine At.regs (L' := [(0, _), (2, _), (6, _)]) (.cons rfl (.cons rfl (.cons rfl (.nil _)))) ?_
      refine cd_seq ?_
      refine cd_region ?_
      refine st (ev_move rfl) rfl rfl rfl ?_
      refine st (ev_nilCheck rfl) rfl rfl rfl ?_
      refine st (ld_blk_all (h := 0) ty132 rfl rfl rfl (by first | omega | (simp only [List.length_append, List.length_cons, List.length_nil, List.length_set, List.length_replicate, List.length_take, List.length_drop, ints_length, wr_length] <;> omega) | rfl)) rfl rfl rfl ?_
      refine st_alloc (h := 9) ty132 rfl rfl rfl (fun b9 => ?_)
      refine st_store_all 9 ty132 rfl rfl rfl rfl (by first | omega | (simp only [List.length_append, List.length_cons, List.length_nil, List.length_set, List.length_replicate, List.length_take, List.length_drop, ints_length, wr_length] <;> omega) | rfl) (ints_one _ _) (by first | omega | (simp only [List.length_append, List.length_cons, List.length_nil, List.length_set, List.length_replicate, List.length_take, List.length_drop, ints_length, wr_length] <;> omega) | rfl) rfl ?_
      refine op_nil ?_
      refine ax_then ?_
      refine At.regs (L' := [(0, _), (2, _), (6, _), (9, _)]) (.cons rfl (.cons rfl (.cons rfl (.cons rfl (.nil _))))) ?_
      refine cd_seq ?_
      refine cd_seq ?_
      refine cd_region ?_
      refine st (ev_move rfl) rfl rfl rfl ?_
      refine op_nil ?_
      refine ax_then ?_
      refine At.regs (L' := [(0, _), (2, _), (6, _), (9, _), (83, _)]) (.cons rfl (.cons rfl (.cons rfl (.cons rfl (.cons rfl (.nil _)))))) ?_
      refine cd_block ?_
      refine cd_loop (ι := Nat) (fun i => i ≤ 64) (fun i => 64 - i)
          (fun i => [(0, .pointer (some ⟨bs, 0, none⟩)), (2, .pointer (some ⟨bk, 0, none⟩)), (6, .pointer (some ⟨b6, 0, none⟩)), (9, .pointer (some ⟨b9, 0, none⟩)), (83, .int .i64 (i : Int))])
          (fun i => [(0, .blk bs (.cells (ints .u32 (s)).toArray TS)), (6, .blk b6 (.cells (ints .u32 (sched b)).toArray 128)), (9, .blk b9 (.cells (ints .u32 (rnds k (sched b) s i)).toArray 132))])
          (fun i => [(1, .sl p 1 (ints .u8 b)), (2, .mem bk 0 (ints .u32 k))])
          0 (by omega) (.cons rfl (.cons rfl (.cons rfl (.cons rfl (.cons rfl (.nil _)))))) (.cons rfl (.cons rfl (.cons rfl (.nil _)))) (.cons rfl (.cons rfl (.nil _))) (fun i hi => ?_)
      have hv := rnds_len k (sched b) s hs i
      have hw := sched_len b
      refine cd_seq ?_
      refine cd_region ?_
      refine st (ev_lss rfl rfl) rfl rfl rfl ?_
      refine op_nil ?_
      refine ax_then ?_
      refine At.regs (L' := [(0, _), (2, _), (6, _), (9, _), (83, _), (84, _)]) (.cons rfl (.cons rfl (.cons rfl (.cons rfl (.cons rfl (.cons rfl (.nil _))))))) ?_
      refine cd_seq ?_
      refine cd_if rfl (fun hc84 => ?_) (fun hc84 => ?_)
      ·
        refine cd_skip ?_
        refine ax_then ?_
        refine At.regs (L' := [(0, _), (2, _), (6, _), (9, _), (83, _), (84, _)]) (.cons rfl (.cons rfl (.cons rfl (.cons rfl (.cons rfl (.cons rfl (.nil _))))))) ?_
        refine cd_seq ?_
        refine cd_block ?_
        refine cd_seq ?_
        refine cd_region ?_
        refine st (ev_move rfl) rfl rfl rfl ?_
        refine st (ev_assign rfl) rfl rfl rfl ?_
        refine op_nil ?_
        refine ax_then ?_
        refine At.regs (L' := [(0, _), (2, _), (6, _), (9, _), (10, _), (83, _), (84, _), (85, _)]) (.cons rfl (.cons rfl (.cons rfl (.cons rfl (.cons rfl (.cons rfl (.cons rfl (.cons rfl (.nil _))))))))) ?_
        refine cd_seq ?_
        refine cd_open hmix (by decide +kernel) ?_
        refine qt (ev_indexAddr_arrm 7 rfl Try.underlying132 ty126 rfl rfl (by decide) (by decide)) rfl rfl rfl ?_
        refine qt (ld_blk1 (h := 9) ty126 rfl rfl rfl (ints_get _ _ _ (by first | omega | (simp only [List.length_append, List.length_cons, List.length_nil, List.length_set, List.length_replicate, List.length_take, List.length_drop, ints_length, wr_length] <;> omega) | rfl))) rfl rfl rfl ?_
        refine qt (ev_indexAddr_arrm 4 rfl Try.underlying132 ty126 rfl rfl (by decide) (by decide)) rfl rfl rfl ?_
        refine qt (ld_blk1 (h := 9) ty126 rfl rfl rfl (ints_get _ _ _ (by first | omega | (simp only [List.length_append, List.length_cons, List.length_nil, List.length_set, List.length_replicate, List.length_take, List.length_drop, ints_length, wr_length] <;> omega) | rfl))) rfl rfl rfl ?_
        refine qt_callv has106 rfl (fun w1 sw => b1_any _ w1) rfl rfl ?_
        refine qt (ev_add rfl rfl) rfl rfl rfl ?_
        refine qt (ev_indexAddr_arrm 4 rfl Try.underlying132 ty126 rfl rfl (by decide) (by decide)) rfl rfl rfl ?_
        refine qt (ld_blk1 (h := 9) ty126 rfl rfl rfl (ints_get _ _ _ (by first | omega | (simp only [List.length_append, List.length_cons, List.length_nil, List.length_set, List.length_replicate, List.length_take, List.length_drop, ints_length, wr_length] <;> omega) | rfl))) rfl rfl rfl ?_
        refine qt (ev_indexAddr_arrm 5 rfl Try.underlying132 ty126 rfl rfl (by decide) (by decide)) rfl rfl rfl ?_
        refine qt (ld_blk1 (h := 9) ty126 rfl rfl rfl (ints_get _ _ _ (by first | omega | (simp only [List.length_append, List.length_cons, List.length_nil, List.length_set, List.length_replicate, List.length_take, List.length_drop, ints_length, wr_length] <;> omega) | rfl))) rfl rfl rfl ?_
        refine qt (ev_indexAddr_arrm 6 rfl Try.underlying132 ty126 rfl rfl (by decide) (by decide)) rfl rfl rfl ?_
        refine qt (ld_blk1 (h := 9) ty126 rfl rfl rfl (ints_get _ _ _ (by first | omega | (simp only [List.length_append, List.length_cons, List.length_nil, List.length_set, List.length_replicate, List.length_take, List.length_drop, ints_length, wr_length] <;> omega) | rfl))) rfl rfl rfl ?_
        refine qt_callv has107 rfl (fun w1 sw => ch_any _ _ _ w1) rfl rfl ?_
        refine qt (ev_add rfl rfl) rfl rfl rfl ?_
        refine qt (ev_move rfl) rfl rfl rfl ?_
        refine qt (ev_move rfl) rfl rfl rfl ?_
        refine qt (ev_nilCheck rfl) rfl rfl rfl ?_
        refine qt (ev_indexAddr_arr Try.underlying128 ty126 rfl rfl (by omega) (by omega)) rfl rfl rfl ?_
        refine qt (ld_mem1 (h := 2) ty126 rfl rfl rfl (Nat.zero_add _).symm (ints_get _ _ _ (by first | omega | (simp only [List.length_append, List.length_cons, List.length_nil, List.length_set, List.length_replicate, List.length_take, List.length_drop, ints_length, wr_length] <;> omega) | rfl))) rfl rfl rfl ?_
        refine qt (ev_add rfl rfl) rfl rfl rfl ?_
        refine qt (ev_move rfl) rfl rfl rfl ?_
        refine qt (ev_indexAddr_arr Try.underlying128 ty126 rfl rfl (by omega) (by omega)) rfl rfl rfl ?_
        refine qt (ld_blk1 (h := 6) ty126 rfl rfl rfl (ints_get _ _ _ (by first | omega | (simp only [List.length_append, List.length_cons, List.length_nil, List.length_set, List.length_replicate, List.length_take, List.length_drop, ints_length, wr_length] <;> omega) | rfl))) rfl rfl rfl ?_
        refine qt (ev_add rfl rfl) rfl rfl rfl ?_
        refine qt (ev_assign rfl) rfl rfl rfl ?_
        refine qt_end ?_
        refine op_nil ?_
        refine ax_then ?_
        refine At.regs (L' := [(0, _), (2, _), (6, _), (9, _), (10, _), (11, _), (83, _), (84, _), (85, _), (86, _), (87, _), (88, _), (89, _), (90, _), (91, _), (92, _), (93, _), (94, _), (95, _), (96, _), (97, _), (98, _), (99, _), (100, _), (101, _), (102, _), (103, _), (104, _), (105, _), (106, _), (107, _), (108, _), (109, _)]) (.cons rfl (.cons rfl (.cons rfl (.cons rfl (.cons rfl (.cons rfl (.cons rfl (.cons rfl (.cons rfl (.cons rfl (.cons rfl (.cons rfl (.cons rfl (.cons rfl (.cons rfl (.cons rfl (.cons rfl (.cons rfl (.cons rfl (.cons rfl (.cons rfl (.cons rfl (.cons rfl (.cons rfl (.cons rfl (.cons rfl (.cons rfl (.cons rfl (.cons rfl (.cons rfl (.cons rfl (.cons rfl (.cons rfl (.nil _)))))))))))))))))))))))))))))))))) ?_
        refine cd_seq ?_
        refine cd_open hmix (by decide +kernel) ?_
        refine qt (ev_indexAddr_arrm 0 rfl Try.underlying132 ty126 rfl rfl (by decide) (by decide)) rfl rfl rfl ?_
        refine qt (ld_blk1 (h := 9) ty126 rfl rfl rfl (ints_get _ _ _ (by first | omega | (simp only [List.length_append, List.length_cons, List.length_nil, List.length_set, List.length_replicate, List.length_take, List.length_drop, ints_length, wr_length] <;> omega) | rfl))) rfl rfl rfl ?_
        refine qt_callv has108 rfl (fun w1 sw => b0_any _ w1) rfl rfl ?_
        refine qt (ev_indexAddr_arrm 0 rfl Try.underlying132 ty126 rfl rfl (by decide) (by decide)) rfl rfl rfl ?_
        refine qt (ld_blk1 (h := 9) ty126 rfl rfl rfl (ints_get _ _ _ (by first | omega | (simp only [List.length_append, List.length_cons, List.length_nil, List.length_set, List.length_replicate, List.length_take, List.length_drop, ints_length, wr_length] <;> omega) | rfl))) rfl rfl rfl ?_
        refine qt (ev_indexAddr_arrm 1 rfl Try.underlying132 ty126 rfl rfl (by decide) (by decide)) rfl rfl rfl ?_
        refine qt (ld_blk1 (h := 9) ty126 rfl rfl rfl (ints_get _ _ _ (by first | omega | (simp only [List.length_append, List.length_cons, List.length_nil, List.length_set, List.length_replicate, List.length_take, List.length_drop, ints_length, wr_length] <;> omega) | rfl))) rfl rfl rfl ?_
        refine qt (ev_indexAddr_arrm 2 rfl Try.underlying132 ty126 rfl rfl (by decide) (by decide)) rfl rfl rfl ?_
        refine qt (ld_blk1 (h := 9) ty126 rfl rfl rfl (ints_get _ _ _ (by first | omega | (simp only [List.length_append, List.length_cons, List.length_nil, List.length_set, List.length_replicate, List.length_take, List.length_drop, ints_length, wr_length] <;> omega) | rfl))) rfl rfl rfl ?_
        refine qt_callv has109 rfl (fun w1 sw => mj_any _ _ _ w1) rfl rfl ?_
        refine qt (ev_add rfl rfl) rfl rfl rfl ?_
        refine qt (ev_assign rfl) rfl rfl rfl ?_
        refine qt_end ?_
        refine op_nil ?_
        refine ax_then ?_
        refine At.regs (L' := [(0, _), (2, _), (6, _), (9, _), (10, _), (11, _), (12, _), (83, _), (84, _), (85, _), (86, _), (87, _), (88, _), (89, _), (90, _), (91, _), (92, _), (93, _), (94, _), (95, _), (96, _), (97, _), (98, _), (99, _), (100, _), (101, _), (102, _), (103, _), (104, _), (105, _), (106, _), (107, _), (108, _), (109, _), (110, _), (111, _), (112, _), (113, _), (114, _), (115, _), (116, _), (117, _), (118, _), (119, _), (120, _)]) (.cons rfl (.cons rfl (.cons rfl (.cons rfl (.cons rfl (.cons rfl (.cons rfl (.cons rfl (.cons rfl (.cons rfl (.cons rfl (.cons rfl (.cons rfl (.cons rfl (.cons rfl (.cons rfl (.cons rfl (.cons rfl (.cons rfl (.cons rfl (.cons rfl (.cons rfl (.cons rfl (.cons rfl (.cons rfl (.cons rfl (.cons rfl (.cons rfl (.cons rfl (.cons rfl (.cons rfl (.cons rfl (.cons rfl (.cons rfl (.cons rfl (.cons rfl (.cons rfl (.cons rfl (.cons rfl (.cons rfl (.cons rfl (.cons rfl (.cons rfl (.cons rfl (.cons rfl (.nil _)))))))))))))))))))))))))))))))))))))))))))))) ?_
        refine cd_region ?_
        refine st (ev_move rfl) rfl rfl rfl ?_
        refine st (ev_move rfl) rfl rfl rfl ?_
        refine st (ev_add rfl rfl) rfl rfl rfl ?_
        refine st (ev_indexAddr_arrm 0 rfl Try.underlying132 ty126 rfl rfl (by decide) (by decide)) rfl rfl rfl ?_
        refine st (ld_blk1 (h := 9) ty126 rfl rfl rfl (ints_get _ _ _ (by first | omega | (simp only [List.length_append, List.length_cons, List.length_nil, List.length_set, List.length_replicate, List.length_take, List.length_drop, ints_length, wr_length] <;> omega) | rfl))) rfl rfl rfl ?_
        refine st (ev_indexAddr_arrm 1 rfl Try.underlying132 ty126 rfl rfl (by decide) (by decide)) rfl rfl rfl ?_
        refine st (ld_blk1 (h := 9) ty126 rfl rfl rfl (ints_get _ _ _ (by first | omega | (simp only [List.length_append, List.length_cons, List.length_nil, List.length_set, List.length_replicate, List.length_take, List.length_drop, ints_length, wr_length] <;> omega) | rfl))) rfl rfl rfl ?_
        refine st (ev_indexAddr_arrm 2 rfl Try.underlying132 ty126 rfl rfl (by decide) (by decide)) rfl rfl rfl ?_
        refine st (ld_blk1 (h := 9) ty126 rfl rfl rfl (ints_get _ _ _ (by first | omega | (simp only [List.length_append, List.length_cons, List.length_nil, List.length_set, List.length_replicate, List.length_take, List.length_drop, ints_length, wr_length] <;> omega) | rfl))) rfl rfl rfl ?_
        refine st (ev_indexAddr_arrm 3 rfl Try.underlying132 ty126 rfl rfl (by decide) (by decide)) rfl rfl rfl ?_
        refine st (ld_blk1 (h := 9) ty126 rfl rfl rfl (ints_get _ _ _ (by first | omega | (simp only [List.length_append, List.length_cons, List.length_nil, List.length_set, List.length_replicate, List.length_take, List.length_drop, ints_length, wr_length] <;> omega) | rfl))) rfl rfl rfl ?_
        refine st (ev_move rfl) rfl rfl rfl ?_
        refine st (ev_add rfl rfl) rfl rfl rfl ?_
        refine st (ev_indexAddr_arrm 4 rfl Try.underlying132 ty126 rfl rfl (by decide) (by decide)) rfl rfl rfl ?_
        refine st (ld_blk1 (h := 9) ty126 rfl rfl rfl (ints_get _ _ _ (by first | omega | (simp only [List.length_append, List.length_cons, List.length_nil, List.length_set, List.length_replicate, List.length_take, List.length_drop, ints_length, wr_length] <;> omega) | rfl))) rfl rfl rfl ?_
        refine st (ev_indexAddr_arrm 5 rfl Try.underlying132 ty126 rfl rfl (by decide) (by decide)) rfl rfl rfl ?_
        refine st (ld_blk1 (h := 9) ty126 rfl rfl rfl (ints_get _ _ _ (by first | omega | (simp only [List.length_append, List.length_cons, List.length_nil, List.length_set, List.length_replicate, List.length_take, List.length_drop, ints_length, wr_length] <;> omega) | rfl))) rfl rfl rfl ?_
        refine st (ev_indexAddr_arrm 6 rfl Try.underlying132 ty126 rfl rfl (by decide) (by decide)) rfl rfl rfl ?_
        refine st (ld_blk1 (h := 9) ty126 rfl rfl rfl (ints_get _ _ _ (by first | omega | (simp only [List.length_append, List.length_cons, List.length_nil, List.length_set, List.length_replicate, List.length_take, List.length_drop, ints_length, wr_length] <;> omega) | rfl))) rfl rfl rfl ?_
        refine st (ev_build_ints (xs := [_, _, _, _, _, _, _, _]) (zs := List.replicate 8 0) ty132 rfl ty126 rfl rfl rfl rfl rfl) rfl rfl rfl ?_
        refine st_store_all 9 ty132 rfl rfl rfl rfl (by first | omega | (simp only [List.length_append, List.length_cons, List.length_nil, List.length_set, List.length_replicate, List.length_take, List.length_drop, ints_length, wr_length] <;> omega) | rfl) (ints_one _ _) (by first | omega | (simp only [List.length_append, List.length_cons, List.length_nil, List.length_set, List.length_replicate, List.length_take, List.length_drop, ints_length, wr_length] <;> omega) | rfl) rfl ?_
        refine op_nil ?_
        refine ax_block ?_
        refine ax_then ?_
        refine At.regs (L' := [(0, _), (2, _), (6, _), (9, _), (10, _), (11, _), (12, _), (83, _), (84, _), (85, _), (86, _), (87, _), (88, _), (89, _), (90, _), (91, _), (92, _), (93, _), (94, _), (95, _), (96, _), (97, _), (98, _), (99, _), (100, _), (101, _), (102, _), (103, _), (104, _), (105, _), (106, _), (107, _), (108, _), (109, _), (110, _), (111, _), (112, _), (113, _), (114, _), (115, _), (116, _), (117, _), (118, _), (119, _), (120, _), (121, _), (122, _), (123, _), (124, _), (125, _), (126, _), (127, _), (128, _), (129, _), (130, _), (131, _), (132, _), (133, _), (134, _), (135, _), (136, _), (137, _), (138, _), (139, _), (140, _)]) (.cons rfl (.cons rfl (.cons rfl (.cons rfl (.cons rfl (.cons rfl (.cons rfl (.cons rfl (.cons rfl (.cons rfl (.cons rfl (.cons rfl (.cons rfl (.cons rfl (.cons rfl (.cons rfl (.cons rfl (.cons rfl (.cons rfl (.cons rfl (.cons rfl (.cons rfl (.cons rfl (.cons rfl (.cons rfl (.cons rfl (.cons rfl (.cons rfl (.cons rfl (.cons rfl (.cons rfl (.cons rfl (.cons rfl (.cons rfl (.cons rfl (.cons rfl (.cons rfl (.cons rfl (.cons rfl (.cons rfl (.cons rfl (.cons rfl (.cons rfl (.cons rfl (.cons rfl (.cons rfl (.cons rfl (.cons rfl (.cons rfl (.cons rfl (.cons rfl (.cons rfl (.cons rfl (.cons rfl (.cons rfl (.cons rfl (.cons rfl (.cons rfl (.cons rfl (.cons rfl (.cons rfl (.cons rfl (.cons rfl (.cons rfl (.cons rfl (.nil _)))))))))))))))))))))))))))))))))))))))))))))))))))))))))))))))))) ?_
        refine cd_region ?_
        refine st (ev_add64 rfl rfl (by omega) (by omega)) rfl rfl rfl ?_
        refine st (ev_move rfl) rfl rfl rfl ?_
        refine op_nil ?_
        have e0 : 0 + (i : Int).toNat * 1 = i := by omega
        refine ax_heq (i := 9) (v' := .blk b9 (.cells (ints .u32 (rnds k (sched b) s (i + 1))).toArray 132)) rfl (by simp only [e0]; simp only [rnds, rnd, tt, uu, add]) ?_
        exact at_again (i + 1) (by omega) (by omega) (.cons rfl (.cons rfl (.cons rfl (.cons rfl (.cons rfl (.nil _)))))) (.cons rfl (.cons rfl (.cons rfl (.nil _)))) (.cons rfl (.cons rfl (.nil _)))
      ·
        obtain rfl : i = 64 := by omega
        refine cd_exit ?_
        refine ax_then_exit ?_
        refine ax_then_exit ?_
        refine ax_block_hit ?_
        refine ax_then ?_
        refine At.regs (L' := [(0, _), (9, _)]) (.cons rfl (.cons rfl (.nil _))) ?_
        refine cd_seq ?_
        refine cd_region ?_
        refine st (ev_move rfl) rfl rfl rfl ?_
        refine op_nil ?_
        refine ax_then ?_
        refine At.regs (L' := [(0, _), (9, _), (142, _)]) (.cons rfl (.cons rfl (.cons rfl (.nil _)))) ?_
        refine cd_block ?_
        refine cd_loop (ι := Nat) (fun i => i ≤ 8) (fun i => 8 - i)
            (fun i => [(0, .pointer (some ⟨bs, 0, none⟩)), (9, .pointer (some ⟨b9, 0, none⟩)), (142, .int .i64 (i : Int))])
            (fun i => [(0, .blk bs (.cells (ints .u32 (adds s (rnds k (sched b) s 64) i)).toArray TS)), (9, .blk b9 (.cells (ints .u32 (rnds k (sched b) s 64)).toArray 132))])
            (fun i => [(1, .sl p 1 (ints .u8 b)), (2, .mem bk 0 (ints .u32 k))])
            0 (by omega) (.cons rfl (.cons rfl (.cons rfl (.nil _)))) (.cons rfl (.cons rfl (.nil _))) (.cons rfl (.cons rfl (.nil _))) (fun i hi => ?_)
        have hv := rnds_len k (sched b) s hs 64
        have hw := adds_len s (rnds k (sched b) s 64) i
        refine cd_seq ?_
        refine cd_region ?_
        refine st (ev_lss rfl rfl) rfl rfl rfl ?_
        refine op_nil ?_
        refine ax_then ?_
        refine At.regs (L' := [(0, _), (9, _), (142, _), (143, _)]) (.cons rfl (.cons rfl (.cons rfl (.cons rfl (.nil _))))) ?_
        refine cd_seq ?_
        refine cd_if rfl (fun hc143 => ?_) (fun hc143 => ?_)
        ·
          refine cd_skip ?_
          refine ax_then ?_
          refine At.regs (L' := [(0, _), (9, _), (142, _), (143, _)]) (.cons rfl (.cons rfl (.cons rfl (.cons rfl (.nil _))))) ?_
          refine cd_seq ?_
          refine cd_block ?_
          refine cd_seq ?_
          refine cd_region ?_
          refine st (ev_move rfl) rfl rfl rfl ?_
          refine st (ev_assign rfl) rfl rfl rfl ?_
          refine op_nil ?_
          refine ax_then ?_
          refine At.regs (L' := [(0, _), (9, _), (13, _), (142, _), (143, _), (144, _)]) (.cons rfl (.cons rfl (.cons rfl (.cons rfl (.cons rfl (.cons rfl (.nil _))))))) ?_
          refine cd_open_tail 10 hmix (by decide +kernel) ?_
          refine qt (ev_move rfl) rfl rfl rfl ?_
          refine qt (ev_move rfl) rfl rfl rfl ?_
          refine qt (ev_nilCheck rfl) rfl rfl rfl ?_
          refine qt (ev_indexAddr_arr Try.underlying132 ty126 rfl rfl (by omega) (by omega)) rfl rfl rfl ?_
          refine qt (ld_blk1 (h := 0) ty126 rfl rfl rfl (ints_get _ _ _ (by first | omega | (simp only [List.length_append, List.length_cons, List.length_nil, List.length_set, List.length_replicate, List.length_take, List.length_drop, ints_length, wr_length] <;> omega) | rfl))) rfl rfl rfl ?_
          refine qt (ev_move rfl) rfl rfl rfl ?_
          refine qt (ev_indexAddr_arr Try.underlying132 ty126 rfl rfl (by omega) (by omega)) rfl rfl rfl ?_
          refine qt (ld_blk1 (h := 9) ty126 rfl rfl rfl (ints_get _ _ _ (by first | omega | (simp only [List.length_append, List.length_cons, List.length_nil, List.length_set, List.length_replicate, List.length_take, List.length_drop, ints_length, wr_length] <;> omega) | rfl))) rfl rfl rfl ?_
          refine qt (ev_add rfl rfl) rfl rfl rfl ?_
          refine qt (ev_nilCheck rfl) rfl rfl rfl ?_
          refine qt_end ?_
          refine st (ev_indexAddr_arr Try.underlying132 ty126 rfl rfl (by omega) (by omega)) rfl rfl rfl ?_
          refine st_store1 0 ty126 rfl rfl rfl rfl (by first | omega | (simp only [List.length_append, List.length_cons, List.length_nil, List.length_set, List.length_replicate, List.length_take, List.length_drop, ints_length, wr_length] <;> omega) | rfl) rfl ?_
          refine at_heq (i := 0) rfl (by rw [ints_set]) ?_
          refine op_nil ?_
          refine ax_block ?_
          refine ax_then ?_
          refine At.regs (L' := [(0, _), (9, _), (13, _), (142, _), (143, _), (144, _), (145, _), (146, _), (147, _), (148, _), (149, _), (150, _), (151, _), (152, _), (153, _), (154, _), (155, _)]) (.cons rfl (.cons rfl (.cons rfl (.cons rfl (.cons rfl (.cons rfl (.cons rfl (.cons rfl (.cons rfl (.cons rfl (.cons rfl (.cons rfl (.cons rfl (.cons rfl (.cons rfl (.cons rfl (.cons rfl (.nil _)))))))))))))))))) ?_
          refine cd_region ?_
          refine st (ev_add64 rfl rfl (by omega) (by omega)) rfl rfl rfl ?_
          refine st (ev_move rfl) rfl rfl rfl ?_
          refine op_nil ?_
          have e0 : 0 + (i : Int).toNat * 1 = i := by omega
          refine ax_heq (i := 0) (v' := .blk bs (.cells (ints .u32 (adds s (rnds k (sched b) s 64) (i + 1))).toArray TS)) rfl (by simp only [e0]; rfl) ?_
          exact at_again (i + 1) (by omega) (by omega) (.cons rfl (.cons rfl (.cons rfl (.nil _)))) (.cons rfl (.cons rfl (.nil _))) (.cons rfl (.cons rfl (.nil _)))
        ·
          obtain rfl : i = 8 := by omega
          refine cd_exit ?_
          refine ax_then_exit ?_
          refine ax_then_exit ?_
          refine ax_block_hit ?_
          refine rt_none (.inr rfl) Try.results101 ?_
          exact fun w1 sw => ⟨(), trivial, rfl, sw.gives (.cons rfl (.nil _))⟩
end Go.Proofs.Yteedclmcgifmpaa

namespace Go.Proofs.Yteedclmcgifmpaa
open Go Go.RowKit Fw
open Sha
set_option linter.unusedVariables false
set_option linter.unusedSimpArgs false
set_option maxRecDepth 20000 in
set_option maxHeartbeats 1000000 in
theorem numbers_any (w : World) : Calls Try.prog 100 #[] w (PostV w (.agg (ints .u32 K).toArray)) := by
  refine calls_at (vs := []) (X := []) (H := []) (F := []) 2 Try.func100 rfl rfl rfl (Sat.start0 w) ?_
  refine cd_seq ?_
  refine cd_region ?_
  refine st_alloc (h := 0) ty128 rfl rfl rfl (fun b0 => ?_)
  refine op_nil ?_
  refine ax_then ?_
  refine At.regs (L' := [(0, _)]) (.cons rfl (.nil _)) ?_
  refine cd_seq ?_
  refine cd_region ?_
  refine st (ev_build_ints (xs := [_, _, _, _, _, _, _, _, _, _, _, _, _, _, _, _, _, _, _, _, _, _, _, _, _, _, _, _, _, _, _, _, _, _, _, _, _, _, _, _, _, _, _, _, _, _, _, _, _, _, _, _, _, _, _, _, _, _, _, _, _, _, _, _]) (zs := List.replicate 64 0) ty128 rfl ty126 rfl rfl rfl rfl rfl) rfl rfl rfl ?_
  refine st_store_all 0 ty128 rfl rfl rfl rfl (by first | omega | (simp only [List.length_append, List.length_cons, List.length_nil, List.length_set, List.length_replicate, List.length_take, List.length_drop, ints_length, wr_length] <;> omega) | rfl) (ints_one _ _) (by first | omega | (simp only [List.length_append, List.length_cons, List.length_nil, List.length_set, List.length_replicate, List.length_take, List.length_drop, ints_length, wr_length] <;> omega) | rfl) rfl ?_
  refine op_nil ?_
  refine ax_then ?_
  refine At.regs (L' := [(0, _)]) (.cons rfl (.nil _)) ?_
  refine cd_ret ?_
  refine rt_cell (h0 := 0) (.inl rfl) Try.results100 ty128 rfl rfl rfl (by first | omega | (simp only [List.length_append, List.length_cons, List.length_nil, List.length_set, List.length_replicate, List.length_take, List.length_drop, ints_length, wr_length] <;> omega) | rfl) ?_
  exact fun w1 sw => ⟨rfl, by have g := sw.gives (.nil _); exact g⟩
set_option maxRecDepth 20000 in
set_option maxHeartbeats 4000000 in
theorem sum_any (p : Value) (l : List Int) (w : World) (hl : l.length ≤ 140737488352000) (h : Rd w p 1 (ints .u8 l)) : Calls Try.prog 83 #[p] w (PostV w (.agg (ints .u8 (sha l)).toArray)) := by
  refine calls_at (vs := [p]) (X := []) (H := []) (F := [(0, .sl p 1 (ints .u8 l))]) 90 Try.func83 rfl rfl rfl (Sat.rd0 0 h) ?_
  refine cd_seq ?_
  refine cd_region ?_
  refine st_alloc (h := 2) ty39 rfl rfl rfl (fun b2 => ?_)
  refine op_nil ?_
  refine ax_then ?_
  refine At.regs (L' := [(0, _), (2, _)]) (.cons rfl (.cons rfl (.nil _))) ?_
  refine cd_seq ?_
  refine cd_region ?_
  refine st (ev_build_ints (xs := [_, _, _, _, _, _, _, _]) (zs := List.replicate 8 0) ty132 rfl ty126 rfl rfl rfl rfl rfl) rfl rfl rfl ?_
  refine st_alloc (h := 3) ty132 rfl rfl rfl (fun b3 => ?_)
  refine st_store_all 3 ty132 rfl rfl rfl rfl (by first | omega | (simp only [List.length_append, List.length_cons, List.length_nil, List.length_set, List.length_replicate, List.length_take, List.length_drop, ints_length, wr_length] <;> omega) | rfl) (ints_one _ _) (by first | omega | (simp only [List.length_append, List.length_cons, List.length_nil, List.length_set, List.length_replicate, List.length_take, List.length_drop, ints_length, wr_length] <;> omega) | rfl) rfl ?_
  refine op_nil ?_
  refine ax_then ?_
  refine At.regs (L' := [(0, _), (2, _), (3, _)]) (.cons rfl (.cons rfl (.cons rfl (.nil _)))) ?_
  refine cd_seq ?_
  refine cd_region ?_
  refine st_callv has100 rfl (fun w1 sw => numbers_any w1) rfl rfl ?_
  refine st_alloc (h := 4) ty128 rfl rfl rfl (fun b4 => ?_)
  refine st_store_all 4 ty128 rfl rfl rfl rfl (by first | omega | (simp only [List.length_append, List.length_cons, List.length_nil, List.length_set, List.length_replicate, List.length_take, List.length_drop, ints_length, wr_length] <;> omega) | rfl) (ints_one _ _) (by first | omega | (simp only [List.length_append, List.length_cons, List.length_nil, List.length_set, List.length_replicate, List.length_take, List.length_drop, ints_length, wr_length] <;> omega) | rfl) rfl ?_
  refine op_nil ?_
  refine ax_then ?_
  refine At.regs (L' := [(0, _), (2, _), (3, _), (4, _)]) (.cons rfl (.cons rfl (.cons rfl (.cons rfl (.nil _))))) ?_
  refine cd_seq ?_
  refine cd_region ?_
  refine st (ev_move rfl) rfl rfl rfl ?_
  refine st (ev_assign rfl) rfl rfl rfl ?_
  refine op_nil ?_
  refine ax_then ?_
  refine At.regs (L' := [(0, _), (2, _), (3, _), (4, _), (5, _)]) (.cons rfl (.cons rfl (.cons rfl (.cons rfl (.cons rfl (.nil _)))))) ?_
  refine cd_seq ?_
  refine cd_block ?_
  refine at_alias (h := 0) 5 rfl ?_
  refine cd_loop (ι := Nat × Value) (fun x => 64 * x.1 ≤ l.length) (fun x => l.length - 64 * x.1)
      (fun x => [(0, p), (2, .pointer (some ⟨b2, 0, none⟩)), (3, .pointer (some ⟨b3, 0, none⟩)), (4, .pointer (some ⟨b4, 0, none⟩)), (5, x.2)])
      (fun x => [(2, .blk b2 (.cells (ints .u8 (List.replicate 32 0)).toArray 39)), (3, .blk b3 (.cells (ints .u32 (absorb S0 l x.1)).toArray 132)), (4, .blk b4 (.cells (ints .u32 (K)).toArray 128))])
      (fun x => [(0, .sl p 1 (ints .u8 l)), (5, .sl x.2 1 (ints .u8 (l.drop (64 * x.1))))])
      (0, p) (by simp) (.cons rfl (.cons rfl (.cons rfl (.cons rfl (.cons rfl (.nil _)))))) (.cons rfl (.cons rfl (.cons rfl (.nil _)))) (.cons rfl (.cons rfl (.nil _))) (fun x hi => ?_)
  refine cd_seq ?_
  refine cd_seq ?_
  refine cd_region ?_
  refine st (ev_move rfl) rfl rfl rfl ?_
  refine st (ev_len_rdi (h := 5) Try.underlying22 rfl rfl) rfl rfl rfl ?_
  refine st (ev_geq rfl rfl) rfl rfl rfl ?_
  refine op_nil ?_
  refine ax_then ?_
  refine At.regs (L' := [(0, _), (2, _), (3, _), (4, _), (5, _), (17, _), (18, _), (19, _)]) (.cons rfl (.cons rfl (.cons rfl (.cons rfl (.cons rfl (.cons rfl (.cons rfl (.cons rfl (.nil _))))))))) ?_
  refine cd_if rfl (fun hc19 => ?_) (fun hc19 => ?_)
  ·
    refine cd_skip ?_
    refine ax_then ?_
    refine At.regs (L' := [(0, _), (2, _), (3, _), (4, _), (5, _), (17, _), (18, _), (19, _)]) (.cons rfl (.cons rfl (.cons rfl (.cons rfl (.cons rfl (.cons rfl (.cons rfl (.cons rfl (.nil _))))))))) ?_
    refine cd_seq ?_
    refine cd_block ?_
    refine cd_region ?_
    refine st (ev_move rfl) rfl rfl rfl ?_
    refine st_call has101 rfl (fun w1 sw => rn 3 (take_any b3 b4 132 (x.2) _ (l.drop (64 * x.1)) K w1 (by simp only [absorb_len]; rfl) rfl (by simp only [List.length_drop] at hc19 ⊢; omega) (sw.blk_eq (h := 3) rfl) (sw.sl_rd (h := 5) rfl) (lies_blk (sw.blk_eq (h := 4) rfl)) (sw.off_sl (f := 5) (h := 3) rfl rfl (by simp [Ent.ids]) (by intro hn; have := congrArg List.length hn; simp only [ints_length, List.length_drop, List.length_nil] at hc19 this; omega)) (sw.ne_blk (h := 3) (h' := 4) rfl rfl (by decide)))) (mod_blk rfl) rfl rfl (fun _ _ => ?_)
    refine op_nil ?_
    refine ax_block ?_
    refine ax_then ?_
    refine At.regs (L' := [(0, _), (2, _), (3, _), (4, _), (5, _), (17, _), (18, _), (19, _), (22, _)]) (.cons rfl (.cons rfl (.cons rfl (.cons rfl (.cons rfl (.cons rfl (.cons rfl (.cons rfl (.cons rfl (.nil _)))))))))) ?_
    refine cd_region ?_
    refine st (ev_move rfl) rfl rfl rfl ?_
    refine st (ev_slicei_lo (l := l.drop (64 * x.1)) Try.underlying22 ty5 rfl rfl (fun w1 sw => sw.sl_rd (h := 5) rfl) (by omega) (by simp only [List.length_drop] at hc19 ⊢; omega)) rfl rfl rfl ?_
    refine at_cuti (h := 5) (lo := 64) (hi := (l.drop (64 * x.1)).length) 5 rfl (by simp only [List.length_drop] at hc19 ⊢; omega) (Nat.le_refl _) ?_
    refine at_feq (i := 5) (v' := .sl (cutAt 1 x.2 64 (l.drop (64 * x.1)).length) 1 (ints .u8 (l.drop (64 * (x.1 + 1))))) rfl (by rw [List.drop_drop, List.take_of_length_le (by simp only [List.length_drop]; omega)]; rfl) ?_
    refine st (ev_assign rfl) rfl rfl rfl ?_
    refine op_nil ?_
    exact at_again ((x.1 + 1, cutAt 1 x.2 64 (l.drop (64 * x.1)).length)) (by simp only [List.length_drop] at hc19; omega) (by simp only [List.length_drop] at hc19; omega) (.cons rfl (.cons rfl (.cons rfl (.cons rfl (.cons rfl (.nil _)))))) (.cons rfl (.cons rfl (.cons rfl (.nil _)))) (.cons rfl (.cons rfl (.nil _)))
  ·
    obtain ⟨j, v⟩ := x
    simp only [List.length_drop] at hi hc19
    obtain rfl : j = l.length / 64 := by omega
    have hrl : (l.drop (64 * (l.length / 64))).length < 64 := by simp only [List.length_drop]; omega
    dsimp only
    generalize hr : l.drop (64 * (l.length / 64)) = r at hrl ⊢
    have hen : en r.length = 64 ∨ en r.length = 128 := by unfold en; split <;> simp
    refine cd_exit ?_
    refine ax_then_exit ?_
    refine ax_then_exit ?_
    refine ax_block_hit ?_
    refine ax_then ?_
    refine At.regs (L' := [(0, _), (2, _), (3, _), (4, _), (5, _)]) (.cons rfl (.cons rfl (.cons rfl (.cons rfl (.cons rfl (.nil _)))))) ?_
    refine cd_seq ?_
    refine cd_region ?_
    refine st_alloc (h := 6) ty134 rfl rfl rfl (fun b6 => ?_)
    refine op_nil ?_
    refine ax_then ?_
    refine At.regs (L' := [(0, _), (2, _), (3, _), (4, _), (5, _), (6, _)]) (.cons rfl (.cons rfl (.cons rfl (.cons rfl (.cons rfl (.cons rfl (.nil _))))))) ?_
    refine cd_seq ?_
    refine cd_region ?_
    refine st (ev_slice_arr_all Try.underlying134 ty5 rfl) rfl rfl rfl ?_
    refine st (ev_move rfl) rfl rfl rfl ?_
    refine st_copy (n := r.length) 6 Try.underlying22 ty5 rfl rfl rfl (fun w1 sw => sw.sl_rd (h := 5) rfl) (by decide) (by first | omega | (simp only [List.length_append, List.length_cons, List.length_nil, List.length_set, List.length_replicate, List.length_take, List.length_drop, ints_length, wr_length] <;> omega) | rfl) (by first | omega | (simp only [List.length_append, List.length_cons, List.length_nil, List.length_set, List.length_replicate, List.length_take, List.length_drop, ints_length, wr_length] <;> omega) | rfl) (ints_one _ _) rfl rfl ?_
    refine at_eq (i := 26) (v' := .int .i64 (r.length : Nat)) rfl (by rw [Nat.min_eq_left (by omega)]) ?_
    refine at_heq (i := 6) (v' := .blk b6 (.cells (ints .u8 (r ++ List.replicate (128 - r.length) 0)).toArray 134)) rfl (by rw [copied r hrl]) ?_
    refine st (ev_assign rfl) rfl rfl rfl ?_
    refine op_nil ?_
    refine ax_then ?_
    refine At.regs (L' := [(0, _), (2, _), (3, _), (4, _), (6, _), (7, _)]) (.cons rfl (.cons rfl (.cons rfl (.cons rfl (.cons rfl (.cons rfl (.nil _))))))) ?_
    refine cd_seq ?_
    refine cd_region ?_
    refine st (ev_move rfl) rfl rfl rfl ?_
    refine st (ev_indexAddr_arr Try.underlying134 ty5 rfl rfl (by omega) (by omega)) rfl rfl rfl ?_
    refine st_store1 6 ty5 rfl rfl rfl rfl (by first | omega | (simp only [List.length_append, List.length_cons, List.length_nil, List.length_set, List.length_replicate, List.length_take, List.length_drop, ints_length, wr_length] <;> omega) | rfl) rfl ?_
    refine at_heq (i := 6) rfl (by rw [ints_set]) ?_
    refine at_heq (i := 6) (v' := .blk b6 (.cells (ints .u8 (base r)).toArray 134)) rfl (by rw [based]) ?_
    refine op_nil ?_
    refine ax_then ?_
    refine At.regs (L' := [(0, _), (2, _), (3, _), (4, _), (6, _), (7, _)]) (.cons rfl (.cons rfl (.cons rfl (.cons rfl (.cons rfl (.cons rfl (.nil _))))))) ?_
    refine cd_seq ?_
    refine cd_region ?_
    refine st (ev_assign rfl) rfl rfl rfl ?_
    refine op_nil ?_
    refine ax_then ?_
    refine At.regs (L' := [(0, _), (2, _), (3, _), (4, _), (6, _), (7, _), (8, _)]) (.cons rfl (.cons rfl (.cons rfl (.cons rfl (.cons rfl (.cons rfl (.cons rfl (.nil _)))))))) ?_
    refine cd_join (ι := Unit) (fun _ => True) (fun _ => [(0, p), (2, .pointer (some ⟨b2, 0, none⟩)), (3, .pointer (some ⟨b3, 0, none⟩)), (4, .pointer (some ⟨b4, 0, none⟩)), (6, .pointer (some ⟨b6, 0, none⟩)), (8, .int .i64 (en r.length : Nat))]) (fun _ => [(2, .blk b2 (.cells (ints .u8 (List.replicate 32 0)).toArray 39)), (3, .blk b3 (.cells (ints .u32 (absorb S0 l (l.length / 64))).toArray 132)), (4, .blk b4 (.cells (ints .u32 (K)).toArray 128)), (6, .blk b6 (.cells (ints .u8 (base r)).toArray 134))]) (fun _ => [(0, .sl p 1 (ints .u8 l))]) ?_ (fun _ hj => ?_)
    ·
      refine cd_seq ?_
      refine cd_region ?_
      refine st (ev_move rfl) rfl rfl rfl ?_
      refine st (ev_geq rfl rfl) rfl rfl rfl ?_
      refine op_nil ?_
      refine ax_then ?_
      refine At.regs (L' := [(0, _), (2, _), (3, _), (4, _), (6, _), (8, _), (30, _)]) (.cons rfl (.cons rfl (.cons rfl (.cons rfl (.cons rfl (.cons rfl (.cons rfl (.nil _)))))))) ?_
      refine cd_if rfl (fun hc30 => ?_) (fun hc30 => ?_)
      ·
        refine cd_region ?_
        refine st (ev_assign rfl) rfl rfl rfl ?_
        refine op_nil ?_
        refine ax_eq (i := 8) (v' := .int .i64 (en r.length : Nat)) rfl (by rw [en, if_pos (by omega)]; rfl) ?_
        exact at_met (()) (trivial) (.cons rfl (.cons rfl (.cons rfl (.cons rfl (.cons rfl (.cons rfl (.nil _))))))) (.cons rfl (.cons rfl (.cons rfl (.cons rfl (.nil _))))) (.cons rfl (.nil _))
      ·
        refine cd_skip ?_
        refine ax_eq (i := 8) (v' := .int .i64 (en r.length : Nat)) rfl (by rw [en, if_neg (by omega)]; rfl) ?_
        exact at_met (()) (trivial) (.cons rfl (.cons rfl (.cons rfl (.cons rfl (.cons rfl (.cons rfl (.nil _))))))) (.cons rfl (.cons rfl (.cons rfl (.cons rfl (.nil _))))) (.cons rfl (.nil _))
    ·
      refine cd_seq ?_
      refine cd_region ?_
      refine st (ev_move rfl) rfl rfl rfl ?_
      refine st (ev_len_rdi (h := 0) Try.underlying22 rfl rfl) rfl rfl rfl ?_
      refine st (ev_convu64 Try.underlying3 Try.underlying121 rfl (by omega) (by omega)) rfl rfl rfl ?_
      refine st (ev_shl rfl rfl (by omega)) rfl rfl rfl ?_
      refine at_eq (i := 34) (v' := .int .u64 (8 * (l.length : Int))) rfl (by rw [ishl3 _ hl]) ?_
      refine st (ev_assign rfl) rfl rfl rfl ?_
      refine op_nil ?_
      refine ax_then ?_
      refine At.regs (L' := [(2, _), (3, _), (4, _), (6, _), (8, _), (9, _)]) (.cons rfl (.cons rfl (.cons rfl (.cons rfl (.cons rfl (.cons rfl (.nil _))))))) ?_
      refine cd_seq ?_
      refine cd_seq ?_
      refine cd_region ?_
      refine st (ev_move rfl) rfl rfl rfl ?_
      refine op_nil ?_
      refine ax_then ?_
      refine At.regs (L' := [(2, _), (3, _), (4, _), (6, _), (8, _), (9, _), (35, _)]) (.cons rfl (.cons rfl (.cons rfl (.cons rfl (.cons rfl (.cons rfl (.cons rfl (.nil _)))))))) ?_
      refine cd_block ?_
      refine cd_loop (ι := Nat) (fun i => i ≤ 8) (fun i => 8 - i)
          (fun i => [(2, .pointer (some ⟨b2, 0, none⟩)), (3, .pointer (some ⟨b3, 0, none⟩)), (4, .pointer (some ⟨b4, 0, none⟩)), (6, .pointer (some ⟨b6, 0, none⟩)), (8, .int .i64 (en r.length : Nat)), (9, .int .u64 (8 * (l.length : Int))), (35, .int .i64 (i : Int))])
          (fun i => [(2, .blk b2 (.cells (ints .u8 (List.replicate 32 0)).toArray 39)), (3, .blk b3 (.cells (ints .u32 (absorb S0 l (l.length / 64))).toArray 132)), (4, .blk b4 (.cells (ints .u32 (K)).toArray 128)), (6, .blk b6 (.cells (ints .u8 (sb (base r) (en r.length) (8 * (l.length : Int)) i)).toArray 134))])
          (fun i => [])
          0 (by omega) (.cons rfl (.cons rfl (.cons rfl (.cons rfl (.cons rfl (.cons rfl (.cons rfl (.nil _)))))))) (.cons rfl (.cons rfl (.cons rfl (.cons rfl (.nil _))))) (.nil _) (fun i hi => ?_)
      have hsb := sb_len (base r) (en r.length) (8 * (l.length : Int)) i
      have hbl := base_len r hrl
      refine cd_seq ?_
      refine cd_region ?_
      refine st (ev_lss rfl rfl) rfl rfl rfl ?_
      refine op_nil ?_
      refine ax_then ?_
      refine At.regs (L' := [(2, _), (3, _), (4, _), (6, _), (8, _), (9, _), (35, _), (36, _)]) (.cons rfl (.cons rfl (.cons rfl (.cons rfl (.cons rfl (.cons rfl (.cons rfl (.cons rfl (.nil _))))))))) ?_
      refine cd_seq ?_
      refine cd_if rfl (fun hc36 => ?_) (fun hc36 => ?_)
      ·
        refine cd_skip ?_
        refine ax_then ?_
        refine At.regs (L' := [(2, _), (3, _), (4, _), (6, _), (8, _), (9, _), (35, _), (36, _)]) (.cons rfl (.cons rfl (.cons rfl (.cons rfl (.cons rfl (.cons rfl (.cons rfl (.cons rfl (.nil _))))))))) ?_
        refine cd_seq ?_
        refine cd_block ?_
        refine cd_seq ?_
        refine cd_region ?_
        refine st (ev_move rfl) rfl rfl rfl ?_
        refine st (ev_assign rfl) rfl rfl rfl ?_
        refine op_nil ?_
        refine ax_then ?_
        refine At.regs (L' := [(2, _), (3, _), (4, _), (6, _), (8, _), (9, _), (10, _), (35, _), (36, _), (37, _)]) (.cons rfl (.cons rfl (.cons rfl (.cons rfl (.cons rfl (.cons rfl (.cons rfl (.cons rfl (.cons rfl (.cons rfl (.nil _))))))))))) ?_
        refine cd_region ?_
        refine st (ev_move rfl) rfl rfl rfl ?_
        refine st (ev_sub64 rfl rfl (by omega) (by omega)) rfl rfl rfl ?_
        refine st (ev_move rfl) rfl rfl rfl ?_
        refine st (ev_sub64 rfl rfl (by omega) (by omega)) rfl rfl rfl ?_
        refine st (ev_move rfl) rfl rfl rfl ?_
        refine st (ev_move rfl) rfl rfl rfl ?_
        refine st (ev_mul64 rfl rfl (by omega) (by omega)) rfl rfl rfl ?_
        refine st (ev_shr rfl rfl (by omega)) rfl rfl rfl ?_
        refine st (ev_conv Try.underlying121 Try.underlying5 rfl) rfl rfl rfl ?_
        refine st (ev_indexAddr_arr Try.underlying134 ty5 rfl rfl (by omega) (by omega)) rfl rfl rfl ?_
        refine st_store1 6 ty5 rfl rfl rfl rfl (by first | omega | (simp only [List.length_append, List.length_cons, List.length_nil, List.length_set, List.length_replicate, List.length_take, List.length_drop, ints_length, wr_length] <;> omega) | rfl) rfl ?_
        refine at_heq (i := 6) rfl (by rw [ints_set]) ?_
        refine op_nil ?_
        refine ax_block ?_
        refine ax_then ?_
        refine At.regs (L' := [(2, _), (3, _), (4, _), (6, _), (8, _), (9, _), (10, _), (35, _), (36, _), (37, _), (38, _), (39, _), (40, _), (41, _), (42, _), (43, _), (44, _), (45, _), (46, _), (47, _)]) (.cons rfl (.cons rfl (.cons rfl (.cons rfl (.cons rfl (.cons rfl (.cons rfl (.cons rfl (.cons rfl (.cons rfl (.cons rfl (.cons rfl (.cons rfl (.cons rfl (.cons rfl (.cons rfl (.cons rfl (.cons rfl (.cons rfl (.cons rfl (.nil _))))))))))))))))))))) ?_
        refine cd_region ?_
        refine st (ev_add64 rfl rfl (by omega) (by omega)) rfl rfl rfl ?_
        refine st (ev_move rfl) rfl rfl rfl ?_
        refine op_nil ?_
        have e0 : 0 + (((en r.length : Nat) : Int) - 1 - (i : Int)).toNat * 1 = en r.length - 1 - i := by omega
        refine ax_heq (i := 6) (v' := .blk b6 (.cells (ints .u8 (sb (base r) (en r.length) (8 * (l.length : Int)) (i + 1))).toArray 134)) rfl (by simp only [e0]; rfl) ?_
        exact at_again (i + 1) (by omega) (by omega) (.cons rfl (.cons rfl (.cons rfl (.cons rfl (.cons rfl (.cons rfl (.cons rfl (.nil _)))))))) (.cons rfl (.cons rfl (.cons rfl (.cons rfl (.nil _))))) (.nil _)
      ·
        obtain rfl : i = 8 := by omega
        refine cd_exit ?_
        refine ax_then_exit ?_
        refine ax_then_exit ?_
        refine ax_block_hit ?_
        refine ax_then ?_
        refine At.regs (L' := [(2, _), (3, _), (4, _), (6, _), (8, _)]) (.cons rfl (.cons rfl (.cons rfl (.cons rfl (.cons rfl (.nil _)))))) ?_
        refine cd_seq ?_
        refine cd_seq ?_
        refine cd_region ?_
        refine st (ev_assign rfl) rfl rfl rfl ?_
        refine op_nil ?_
        refine ax_then ?_
        refine At.regs (L' := [(2, _), (3, _), (4, _), (6, _), (8, _), (11, _)]) (.cons rfl (.cons rfl (.cons rfl (.cons rfl (.cons rfl (.cons rfl (.nil _))))))) ?_
        refine cd_block ?_
        refine cd_loop (ι := Nat) (fun m => 64 * m ≤ en r.length) (fun m => 128 - m)
            (fun m => [(2, .pointer (some ⟨b2, 0, none⟩)), (3, .pointer (some ⟨b3, 0, none⟩)), (4, .pointer (some ⟨b4, 0, none⟩)), (6, .pointer (some ⟨b6, 0, none⟩)), (8, .int .i64 (en r.length : Nat)), (11, .int .i64 (64 * (m : Int)))])
            (fun m => [(2, .blk b2 (.cells (ints .u8 (List.replicate 32 0)).toArray 39)), (3, .blk b3 (.cells (ints .u32 (absorb (absorb S0 l (l.length / 64)) (sb (base r) (en r.length) (8 * (l.length : Int)) 8) m)).toArray 132)), (4, .blk b4 (.cells (ints .u32 (K)).toArray 128)), (6, .blk b6 (.cells (ints .u8 (sb (base r) (en r.length) (8 * (l.length : Int)) 8)).toArray 134))])
            (fun m => [])
            0 (by omega) (.cons rfl (.cons rfl (.cons rfl (.cons rfl (.cons rfl (.cons rfl (.nil _))))))) (.cons rfl (.cons rfl (.cons rfl (.cons rfl (.nil _))))) (.nil _) (fun m hi => ?_)
        have hsb := sb_len (base r) (en r.length) (8 * (l.length : Int)) 8
        have hbl := base_len r hrl
        refine cd_seq ?_
        refine cd_seq ?_
        refine cd_region ?_
        refine st (ev_move rfl) rfl rfl rfl ?_
        refine st (ev_move rfl) rfl rfl rfl ?_
        refine st (ev_lss rfl rfl) rfl rfl rfl ?_
        refine op_nil ?_
        refine ax_then ?_
        refine At.regs (L' := [(2, _), (3, _), (4, _), (6, _), (8, _), (11, _), (49, _), (50, _), (51, _)]) (.cons rfl (.cons rfl (.cons rfl (.cons rfl (.cons rfl (.cons rfl (.cons rfl (.cons rfl (.cons rfl (.nil _)))))))))) ?_
        refine cd_if rfl (fun hc51 => ?_) (fun hc51 => ?_)
        ·
          refine cd_skip ?_
          refine ax_then ?_
          refine At.regs (L' := [(2, _), (3, _), (4, _), (6, _), (8, _), (11, _), (49, _), (50, _), (51, _)]) (.cons rfl (.cons rfl (.cons rfl (.cons rfl (.cons rfl (.cons rfl (.cons rfl (.cons rfl (.cons rfl (.nil _)))))))))) ?_
          refine cd_seq ?_
          refine cd_block ?_
          refine cd_region ?_
          refine st (ev_move rfl) rfl rfl rfl ?_
          refine st (ev_slice_arr_lo Try.underlying134 ty5 rfl rfl (by omega) (by omega)) rfl rfl rfl ?_
          refine st_call has101 rfl (fun w1 sw => rn 3 (take_any b3 b4 132 (.slice (some ⟨b6, 0 + (64 * (m : Int)).toNat * 1, none⟩) (128 - (64 * (m : Int)).toNat) (128 - (64 * (m : Int)).toNat)) _ ((sb (base r) (en r.length) (8 * (l.length : Int)) 8).drop (0 + (64 * (m : Int)).toNat * 1)) K w1 (by simp only [absorb_len]; rfl) rfl (by simp only [List.length_drop]; omega) (sw.blk_eq (h := 3) rfl) (sw.rd_tail (h := 6) rfl (by omega)) (lies_blk (sw.blk_eq (h := 4) rfl)) (fun hb => sw.ne_blk (h := 3) (h' := 6) rfl rfl (by decide) (mem_one hb)) (sw.ne_blk (h := 3) (h' := 4) rfl rfl (by decide)))) (mod_blk rfl) rfl rfl (fun _ _ => ?_)
          refine op_nil ?_
          refine ax_block ?_
          refine ax_then ?_
          refine At.regs (L' := [(2, _), (3, _), (4, _), (6, _), (8, _), (11, _), (49, _), (50, _), (51, _), (54, _), (55, _)]) (.cons rfl (.cons rfl (.cons rfl (.cons rfl (.cons rfl (.cons rfl (.cons rfl (.cons rfl (.cons rfl (.cons rfl (.cons rfl (.nil _)))))))))))) ?_
          refine cd_region ?_
          refine st (ev_move rfl) rfl rfl rfl ?_
          refine st (ev_add64 rfl rfl (by omega) (by omega)) rfl rfl rfl ?_
          refine st (ev_assign rfl) rfl rfl rfl ?_
          refine op_nil ?_
          have e0 : 0 + (64 * (m : Int)).toNat * 1 = 64 * m := by omega
          refine ax_heq (i := 3) (v' := .blk b3 (.cells (ints .u32 (absorb (absorb S0 l (l.length / 64)) (sb (base r) (en r.length) (8 * (l.length : Int)) 8) (m + 1))).toArray 132)) rfl (by simp only [e0]; rfl) ?_
          exact at_again (m + 1) (by omega) (by omega) (.cons rfl (.cons rfl (.cons rfl (.cons rfl (.cons rfl (.cons rfl (.nil _))))))) (.cons rfl (.cons rfl (.cons rfl (.cons rfl (.nil _))))) (.nil _)
        ·
          obtain rfl : m = en r.length / 64 := by omega
          refine cd_exit ?_
          refine ax_then_exit ?_
          refine ax_then_exit ?_
          refine ax_block_hit ?_
          refine ax_then ?_
          refine At.regs (L' := [(2, _), (3, _)]) (.cons rfl (.cons rfl (.nil _))) ?_
          refine cd_seq ?_
          refine cd_seq ?_
          refine at_heq (i := 3) (v' := .blk b3 (.cells (ints .u32 (fs l)).toArray 132)) rfl (by rw [two_texts l r hr.symm]; rfl) ?_
          have hfl := fs_len l
          refine cd_region ?_
          refine st (ld_blk_all (h := 3) ty132 rfl rfl rfl (by first | omega | (simp only [List.length_append, List.length_cons, List.length_nil, List.length_set, List.length_replicate, List.length_take, List.length_drop, ints_length, wr_length] <;> omega) | rfl)) rfl rfl rfl ?_
          refine st (ev_move rfl) rfl rfl rfl ?_
          refine op_nil ?_
          refine ax_then ?_
          refine At.regs (L' := [(2, _), (57, _), (58, _)]) (.cons rfl (.cons rfl (.cons rfl (.nil _)))) ?_
          refine cd_block ?_
          refine cd_loop (ι := Nat) (fun i => i ≤ 8) (fun i => 8 - i)
              (fun i => [(2, .pointer (some ⟨b2, 0, none⟩)), (57, .agg (ints .u32 (fs l)).toArray), (58, .int .i64 (i : Int))])
              (fun i => [(2, .blk b2 (.cells (ints .u8 (outs (fs l) i)).toArray 39))])
              (fun i => [])
              0 (by omega) (.cons rfl (.cons rfl (.cons rfl (.nil _)))) (.cons rfl (.nil _)) (.nil _) (fun i hi => ?_)
          have hfl := fs_len l
          have hol := outs_len (fs l) i
          refine cd_seq ?_
          refine cd_region ?_
          refine st (ev_lss rfl rfl) rfl rfl rfl ?_
          refine op_nil ?_
          refine ax_then ?_
          refine At.regs (L' := [(2, _), (57, _), (58, _), (59, _)]) (.cons rfl (.cons rfl (.cons rfl (.cons rfl (.nil _))))) ?_
          refine cd_seq ?_
          refine cd_if rfl (fun hc59 => ?_) (fun hc59 => ?_)
          ·
            refine cd_skip ?_
            refine ax_then ?_
            refine At.regs (L' := [(2, _), (57, _), (58, _), (59, _)]) (.cons rfl (.cons rfl (.cons rfl (.cons rfl (.nil _))))) ?_
            refine cd_seq ?_
            refine cd_block ?_
            refine cd_seq ?_
            refine cd_region ?_
            refine st (ev_move rfl) rfl rfl rfl ?_
            refine st (ev_indexi Try.underlying132 ty126 rfl rfl (by omega) (by omega) (by first | omega | (simp only [List.length_append, List.length_cons, List.length_nil, List.length_set, List.length_replicate, List.length_take, List.length_drop, ints_length, wr_length] <;> omega) | rfl)) rfl rfl rfl ?_
            refine st (ev_assign rfl) rfl rfl rfl ?_
            refine st (ev_assign rfl) rfl rfl rfl ?_
            refine op_nil ?_
            refine ax_then ?_
            refine At.regs (L' := [(2, _), (12, _), (13, _), (57, _), (58, _), (59, _), (60, _), (61, _)]) (.cons rfl (.cons rfl (.cons rfl (.cons rfl (.cons rfl (.cons rfl (.cons rfl (.cons rfl (.nil _))))))))) ?_
            refine cd_region ?_
            refine st (ev_move rfl) rfl rfl rfl ?_
            refine st (ev_mul64 rfl rfl (by omega) (by omega)) rfl rfl rfl ?_
            refine st (ev_move rfl) rfl rfl rfl ?_
            refine st (ev_mul64 rfl rfl (by omega) (by omega)) rfl rfl rfl ?_
            refine st (ev_add64 rfl rfl (by omega) (by omega)) rfl rfl rfl ?_
            refine st (ev_move rfl) rfl rfl rfl ?_
            refine st (ev_mul64 rfl rfl (by omega) (by omega)) rfl rfl rfl ?_
            refine st (ev_add64 rfl rfl (by omega) (by omega)) rfl rfl rfl ?_
            refine st (ev_move rfl) rfl rfl rfl ?_
            refine st (ev_mul64 rfl rfl (by omega) (by omega)) rfl rfl rfl ?_
            refine st (ev_add64 rfl rfl (by omega) (by omega)) rfl rfl rfl ?_
            refine st (ev_move rfl) rfl rfl rfl ?_
            refine st (ev_shr rfl rfl (by omega)) rfl rfl rfl ?_
            refine st (ev_conv Try.underlying126 Try.underlying5 rfl) rfl rfl rfl ?_
            refine st (ev_move rfl) rfl rfl rfl ?_
            refine st (ev_shr rfl rfl (by omega)) rfl rfl rfl ?_
            refine st (ev_conv Try.underlying126 Try.underlying5 rfl) rfl rfl rfl ?_
            refine st (ev_move rfl) rfl rfl rfl ?_
            refine st (ev_shr rfl rfl (by omega)) rfl rfl rfl ?_
            refine st (ev_conv Try.underlying126 Try.underlying5 rfl) rfl rfl rfl ?_
            refine st (ev_move rfl) rfl rfl rfl ?_
            refine st (ev_conv Try.underlying126 Try.underlying5 rfl) rfl rfl rfl ?_
            refine st (ev_indexAddr_arr Try.underlying39 ty5 rfl rfl (by omega) (by omega)) rfl rfl rfl ?_
            refine st_store1 2 ty5 rfl rfl rfl rfl (by first | omega | (simp only [List.length_append, List.length_cons, List.length_nil, List.length_set, List.length_replicate, List.length_take, List.length_drop, ints_length, wr_length] <;> omega) | rfl) rfl ?_
            refine at_heq (i := 2) rfl (by rw [ints_set]) ?_
            refine st (ev_indexAddr_arr Try.underlying39 ty5 rfl rfl (by omega) (by omega)) rfl rfl rfl ?_
            refine st_store1 2 ty5 rfl rfl rfl rfl (by first | omega | (simp only [List.length_append, List.length_cons, List.length_nil, List.length_set, List.length_replicate, List.length_take, List.length_drop, ints_length, wr_length] <;> omega) | rfl) rfl ?_
            refine at_heq (i := 2) rfl (by rw [ints_set]) ?_
            refine st (ev_indexAddr_arr Try.underlying39 ty5 rfl rfl (by omega) (by omega)) rfl rfl rfl ?_
            refine st_store1 2 ty5 rfl rfl rfl rfl (by first | omega | (simp only [List.length_append, List.length_cons, List.length_nil, List.length_set, List.length_replicate, List.length_take, List.length_drop, ints_length, wr_length] <;> omega) | rfl) rfl ?_
            refine at_heq (i := 2) rfl (by rw [ints_set]) ?_
            refine st (ev_indexAddr_arr Try.underlying39 ty5 rfl rfl (by omega) (by omega)) rfl rfl rfl ?_
            refine st_store1 2 ty5 rfl rfl rfl rfl (by first | omega | (simp only [List.length_append, List.length_cons, List.length_nil, List.length_set, List.length_replicate, List.length_take, List.length_drop, ints_length, wr_length] <;> omega) | rfl) rfl ?_
            refine at_heq (i := 2) rfl (by rw [ints_set]) ?_
            refine op_nil ?_
            refine ax_block ?_
            refine ax_then ?_
            refine At.regs (L' := [(2, _), (12, _), (13, _), (57, _), (58, _), (59, _), (60, _), (61, _), (62, _), (63, _), (64, _), (65, _), (66, _), (67, _), (68, _), (69, _), (70, _), (71, _), (72, _), (73, _), (74, _), (75, _), (76, _), (77, _), (78, _), (79, _), (80, _), (81, _), (82, _), (83, _), (84, _), (85, _), (86, _), (87, _)]) (.cons rfl (.cons rfl (.cons rfl (.cons rfl (.cons rfl (.cons rfl (.cons rfl (.cons rfl (.cons rfl (.cons rfl (.cons rfl (.cons rfl (.cons rfl (.cons rfl (.cons rfl (.cons rfl (.cons rfl (.cons rfl (.cons rfl (.cons rfl (.cons rfl (.cons rfl (.cons rfl (.cons rfl (.cons rfl (.cons rfl (.cons rfl (.cons rfl (.cons rfl (.cons rfl (.cons rfl (.cons rfl (.cons rfl (.cons rfl (.nil _))))))))))))))))))))))))))))))))))) ?_
            refine cd_region ?_
            refine st (ev_add64 rfl rfl (by omega) (by omega)) rfl rfl rfl ?_
            refine st (ev_move rfl) rfl rfl rfl ?_
            refine op_nil ?_
            have e0 : (i : Int).toNat = i := by omega
            have e1 : 0 + (4 * (i : Int)).toNat * 1 = 4 * i := by omega
            have e2 : 0 + (4 * (i : Int) + 1).toNat * 1 = 4 * i + 1 := by omega
            have e3 : 0 + (4 * (i : Int) + 2).toNat * 1 = 4 * i + 2 := by omega
            have e4 : 0 + (4 * (i : Int) + 3).toNat * 1 = 4 * i + 3 := by omega
            refine ax_heq (i := 2) (v' := .blk b2 (.cells (ints .u8 (outs (fs l) (i + 1))).toArray 39)) rfl (by simp only [e0, e1, e2, e3, e4]; rfl) ?_
            exact at_again (i + 1) (by omega) (by omega) (.cons rfl (.cons rfl (.cons rfl (.nil _)))) (.cons rfl (.nil _)) (.nil _)
          ·
            obtain rfl : i = 8 := by omega
            refine cd_exit ?_
            refine ax_then_exit ?_
            refine ax_then_exit ?_
            refine ax_block_hit ?_
            refine ax_then ?_
            refine At.regs (L' := [(2, _)]) (.cons rfl (.nil _)) ?_
            refine cd_seq ?_
            refine at_heq (i := 2) (v' := .blk b2 (.cells (ints .u8 (sha l)).toArray 39)) rfl (by rw [outs_eq]; rfl) ?_
            have hsl := sha_len l
            refine cd_region ?_
            refine st (ld_blk_all (h := 2) ty39 rfl rfl rfl (by first | omega | (simp only [List.length_append, List.length_cons, List.length_nil, List.length_set, List.length_replicate, List.length_take, List.length_drop, ints_length, wr_length] <;> omega) | rfl)) rfl rfl rfl ?_
            refine st_store_all 2 ty39 rfl rfl rfl rfl (by first | omega | (simp only [List.length_append, List.length_cons, List.length_nil, List.length_set, List.length_replicate, List.length_take, List.length_drop, ints_length, wr_length] <;> omega) | rfl) (ints_one _ _) (by first | omega | (simp only [List.length_append, List.length_cons, List.length_nil, List.length_set, List.length_replicate, List.length_take, List.length_drop, ints_length, wr_length] <;> omega) | rfl) rfl ?_
            refine op_nil ?_
            refine ax_then ?_
            refine At.regs (L' := [(2, _)]) (.cons rfl (.nil _)) ?_
            refine cd_ret ?_
            refine rt_cell (h0 := 2) (.inl rfl) Try.results83 ty39 rfl rfl rfl (by first | omega | (simp only [List.length_append, List.length_cons, List.length_nil, List.length_set, List.length_replicate, List.length_take, List.length_drop, ints_length, wr_length] <;> omega) | rfl) ?_
            exact fun w1 sw => ⟨rfl, sw.gives (.nil _)⟩
end Go.Proofs.Yteedclmcgifmpaa

namespace Go.Proofs.Yteedclmcgifmpaa
open Go Go.RowKit Fw
open Sha
set_option linter.unusedVariables false
set_option linter.unusedSimpArgs false
set_option maxRecDepth 20000 in
set_option maxHeartbeats 1000000 in
theorem rk_any (w : World) : Calls Try.prog 98 #[] w (PostV w (.agg (ints .u32 K).toArray)) := by
  refine calls_at (vs := []) (X := []) (H := []) (F := []) 2 Try.func98 rfl rfl rfl (Sat.start0 w) ?_
  refine cd_seq ?_
  refine cd_region ?_
  refine st_alloc (h := 0) ty128 rfl rfl rfl (fun b0 => ?_)
  refine op_nil ?_
  refine ax_then ?_
  refine At.regs (L' := [(0, _)]) (.cons rfl (.nil _)) ?_
  refine cd_seq ?_
  refine cd_region ?_
  refine st (ev_build_ints (xs := [_, _, _, _, _, _, _, _, _, _, _, _, _, _, _, _, _, _, _, _, _, _, _, _, _, _, _, _, _, _, _, _, _, _, _, _, _, _, _, _, _, _, _, _, _, _, _, _, _, _, _, _, _, _, _, _, _, _, _, _, _, _, _, _]) (zs := List.replicate 64 0) ty128 rfl ty126 rfl rfl rfl rfl rfl) rfl rfl rfl ?_
  refine st_store_all 0 ty128 rfl rfl rfl rfl (by first | omega | (simp only [List.length_append, List.length_cons, List.length_nil, List.length_set, List.length_replicate, List.length_take, List.length_drop, ints_length, wr_length, comp_len, absorb_len, S0_len] <;> omega) | rfl) (ints_one _ _) (by first | omega | (simp only [List.length_append, List.length_cons, List.length_nil, List.length_set, List.length_replicate, List.length_take, List.length_drop, ints_length, wr_length, comp_len, absorb_len, S0_len] <;> omega) | rfl) rfl ?_
  refine op_nil ?_
  refine ax_then ?_
  refine At.regs (L' := [(0, _)]) (.cons rfl (.nil _)) ?_
  refine cd_ret ?_
  refine rt_cell (h0 := 0) (.inl rfl) Try.results98 ty128 rfl rfl rfl (by first | omega | (simp only [List.length_append, List.length_cons, List.length_nil, List.length_set, List.length_replicate, List.length_take, List.length_drop, ints_length, wr_length, comp_len, absorb_len, S0_len] <;> omega) | rfl) ?_
  exact fun w1 sw => ⟨rfl, by have g := sw.gives (.nil _); exact g⟩
set_option maxRecDepth 20000 in
set_option maxHeartbeats 4000000 in
theorem block_any (bk : Nat) (p : Value) (s b k : List Int) (w : World) (hs : s.length = 8) (hk : k.length = 64) (hb : 64 ≤ b.length) (h2 : Rd w p 1 (ints .u8 b)) (h3 : Lies w bk 0 (ints .u32 k)) : Calls Try.prog 99 #[.agg (ints .u32 s).toArray, p, .pointer (some ⟨bk, 0, none⟩)] w (PostV w (.agg (ints .u32 (comp k s b)).toArray)) := by
  refine calls_at (vs := [.agg (ints .u32 s).toArray, p, .pointer (some ⟨bk, 0, none⟩)]) (X := []) (H := []) (F := [(1, .sl p 1 (ints .u8 b)), (2, .mem bk 0 (ints .u32 k))]) 196 Try.func99 rfl rfl rfl (((Sat.start0 w).read 2 (f := .mem bk 0 (ints .u32 k)) h3 off_nil).read 1 (f := .sl p 1 (ints .u8 b)) h2 off_nil) ?_
  refine cd_seq ?_
  refine cd_region ?_
  refine st_box (h := 3) rfl rfl rfl rfl (fun b3 => ?_)
  refine st_alloc (h := 6) ty127 rfl rfl rfl (fun b6 => ?_)
  refine op_nil ?_
  refine ax_then ?_
  refine At.regs (L' := [(1, _), (2, _), (3, _), (6, _)]) (.cons rfl (.cons rfl (.cons rfl (.cons rfl (.nil _))))) ?_
  refine cd_seq ?_
  refine cd_region ?_
  refine st_alloc (h := 7) ty128 rfl rfl rfl (fun b7 => ?_)
  refine op_nil ?_
  refine ax_then ?_
  refine At.regs (L' := [(1, _), (2, _), (3, _), (6, _), (7, _)]) (.cons rfl (.cons rfl (.cons rfl (.cons rfl (.cons rfl (.nil _)))))) ?_
  refine cd_seq ?_
  refine cd_seq ?_
  refine cd_region ?_
  refine st (ev_assign rfl) rfl rfl rfl ?_
  refine op_nil ?_
  refine ax_then ?_
  refine At.regs (L' := [(1, _), (2, _), (3, _), (6, _), (7, _), (8, _)]) (.cons rfl (.cons rfl (.cons rfl (.cons rfl (.cons rfl (.cons rfl (.nil _))))))) ?_
  refine cd_block ?_
  refine cd_loop (ι := Nat) (fun i => i ≤ 16) (fun i => 16 - i)
      (fun i => [(1, p), (2, .pointer (some ⟨bk, 0, none⟩)), (3, .pointer (some ⟨b3, 0, none⟩)), (6, .pointer (some ⟨b6, 0, none⟩)), (7, .pointer (some ⟨b7, 0, none⟩)), (8, .int .i64 (i : Int))])
      (fun i => [(3, .blk b3 (.cells (ints .u32 (s)).toArray 127)), (6, .blk b6 (.cells (ints .u32 (List.replicate 8 0)).toArray 127)), (7, .blk b7 (.cells (ints .u32 (w1 b i)).toArray 128))])
      (fun i => [(1, .sl p 1 (ints .u8 b)), (2, .mem bk 0 (ints .u32 k))])
      0 (by omega) (.cons rfl (.cons rfl (.cons rfl (.cons rfl (.cons rfl (.cons rfl (.nil _))))))) (.cons rfl (.cons rfl (.cons rfl (.nil _)))) (.cons rfl (.cons rfl (.nil _))) (fun i hi => ?_)
  have hw1 := w1_len b i
  refine cd_seq ?_
  refine cd_seq ?_
  refine cd_region ?_
  refine st (ev_move rfl) rfl rfl rfl ?_
  refine st (ev_lss rfl rfl) rfl rfl rfl ?_
  refine op_nil ?_
  refine ax_then ?_
  refine At.regs (L' := [(1, _), (2, _), (3, _), (6, _), (7, _), (8, _), (19, _), (20, _)]) (.cons rfl (.cons rfl (.cons rfl (.cons rfl (.cons rfl (.cons rfl (.cons rfl (.cons rfl (.nil _))))))))) ?_
  refine cd_if rfl (fun hc20 => ?_) (fun hc20 => ?_)
  ·
    refine cd_skip ?_
    refine ax_then ?_
    refine At.regs (L' := [(1, _), (2, _), (3, _), (6, _), (7, _), (8, _), (19, _), (20, _)]) (.cons rfl (.cons rfl (.cons rfl (.cons rfl (.cons rfl (.cons rfl (.cons rfl (.cons rfl (.nil _))))))))) ?_
    refine cd_seq ?_
    refine cd_block ?_
    refine cd_open_tail 34 hmix (by decide +kernel) ?_
    refine qt (ev_move rfl) rfl rfl rfl ?_
    refine qt (ev_move rfl) rfl rfl rfl ?_
    refine qt (ev_move rfl) rfl rfl rfl ?_
    refine qt (ev_mul64 rfl rfl (by omega) (by omega)) rfl rfl rfl ?_
    refine qt (ev_indexAddr_rdi (h := 1) Try.underlying22 ty5 rfl rfl rfl (by omega) (by first | omega | (simp only [List.length_append, List.length_cons, List.length_nil, List.length_set, List.length_replicate, List.length_take, List.length_drop, ints_length, wr_length, comp_len, absorb_len, S0_len] <;> omega))) rfl rfl rfl ?_
    refine qt (ld_rd1 (h := 1) ty5 rfl rfl rfl (ints_get _ _ _ (by first | omega | (simp only [List.length_append, List.length_cons, List.length_nil, List.length_set, List.length_replicate, List.length_take, List.length_drop, ints_length, wr_length, comp_len, absorb_len, S0_len] <;> omega) | rfl))) rfl rfl rfl ?_
    refine qt (ev_conv Try.underlying5 Try.underlying126 rfl) rfl rfl rfl ?_
    refine qt (ev_shl rfl rfl (by omega)) rfl rfl rfl ?_
    refine qt (ev_move rfl) rfl rfl rfl ?_
    refine qt (ev_move rfl) rfl rfl rfl ?_
    refine qt (ev_mul64 rfl rfl (by omega) (by omega)) rfl rfl rfl ?_
    refine qt (ev_add64 rfl rfl (by omega) (by omega)) rfl rfl rfl ?_
    refine qt (ev_indexAddr_rdi (h := 1) Try.underlying22 ty5 rfl rfl rfl (by omega) (by first | omega | (simp only [List.length_append, List.length_cons, List.length_nil, List.length_set, List.length_replicate, List.length_take, List.length_drop, ints_length, wr_length, comp_len, absorb_len, S0_len] <;> omega))) rfl rfl rfl ?_
    refine qt (ld_rd1 (h := 1) ty5 rfl rfl rfl (ints_get _ _ _ (by first | omega | (simp only [List.length_append, List.length_cons, List.length_nil, List.length_set, List.length_replicate, List.length_take, List.length_drop, ints_length, wr_length, comp_len, absorb_len, S0_len] <;> omega) | rfl))) rfl rfl rfl ?_
    refine qt (ev_conv Try.underlying5 Try.underlying126 rfl) rfl rfl rfl ?_
    refine qt (ev_shl rfl rfl (by omega)) rfl rfl rfl ?_
    refine qt (ev_or rfl rfl) rfl rfl rfl ?_
    refine qt (ev_move rfl) rfl rfl rfl ?_
    refine qt (ev_move rfl) rfl rfl rfl ?_
    refine qt (ev_mul64 rfl rfl (by omega) (by omega)) rfl rfl rfl ?_
    refine qt (ev_add64 rfl rfl (by omega) (by omega)) rfl rfl rfl ?_
    refine qt (ev_indexAddr_rdi (h := 1) Try.underlying22 ty5 rfl rfl rfl (by omega) (by first | omega | (simp only [List.length_append, List.length_cons, List.length_nil, List.length_set, List.length_replicate, List.length_take, List.length_drop, ints_length, wr_length, comp_len, absorb_len, S0_len] <;> omega))) rfl rfl rfl ?_
    refine qt (ld_rd1 (h := 1) ty5 rfl rfl rfl (ints_get _ _ _ (by first | omega | (simp only [List.length_append, List.length_cons, List.length_nil, List.length_set, List.length_replicate, List.length_take, List.length_drop, ints_length, wr_length, comp_len, absorb_len, S0_len] <;> omega) | rfl))) rfl rfl rfl ?_
    refine qt (ev_conv Try.underlying5 Try.underlying126 rfl) rfl rfl rfl ?_
    refine qt (ev_shl rfl rfl (by omega)) rfl rfl rfl ?_
    refine qt (ev_or rfl rfl) rfl rfl rfl ?_
    refine qt (ev_move rfl) rfl rfl rfl ?_
    refine qt (ev_move rfl) rfl rfl rfl ?_
    refine qt (ev_mul64 rfl rfl (by omega) (by omega)) rfl rfl rfl ?_
    refine qt (ev_add64 rfl rfl (by omega) (by omega)) rfl rfl rfl ?_
    refine qt (ev_indexAddr_rdi (h := 1) Try.underlying22 ty5 rfl rfl rfl (by omega) (by first | omega | (simp only [List.length_append, List.length_cons, List.length_nil, List.length_set, List.length_replicate, List.length_take, List.length_drop, ints_length, wr_length, comp_len, absorb_len, S0_len] <;> omega))) rfl rfl rfl ?_
    refine qt (ld_rd1 (h := 1) ty5 rfl rfl rfl (ints_get _ _ _ (by first | omega | (simp only [List.length_append, List.length_cons, List.length_nil, List.length_set, List.length_replicate, List.length_take, List.length_drop, ints_length, wr_length, comp_len, absorb_len, S0_len] <;> omega) | rfl))) rfl rfl rfl ?_
    refine qt (ev_conv Try.underlying5 Try.underlying126 rfl) rfl rfl rfl ?_
    refine qt (ev_or rfl rfl) rfl rfl rfl ?_
    refine qt_end ?_
    refine st (ev_indexAddr_arr Try.underlying128 ty126 rfl rfl (by omega) (by omega)) rfl rfl rfl ?_
    refine st_store1 7 ty126 rfl rfl rfl rfl (by first | omega | (simp only [List.length_append, List.length_cons, List.length_nil, List.length_set, List.length_replicate, List.length_take, List.length_drop, ints_length, wr_length, comp_len, absorb_len, S0_len] <;> omega) | rfl) rfl ?_
    refine at_heq (i := 7) rfl (by rw [ints_set]) ?_
    refine op_nil ?_
    refine ax_block ?_
    refine ax_then ?_
    refine At.regs (L' := [(1, _), (2, _), (3, _), (6, _), (7, _), (8, _), (19, _), (20, _), (23, _), (24, _), (25, _), (26, _), (27, _), (28, _), (29, _), (30, _), (31, _), (32, _), (33, _), (34, _), (35, _), (36, _), (37, _), (38, _), (39, _), (40, _), (41, _), (42, _), (43, _), (44, _), (45, _), (46, _), (47, _), (48, _), (49, _), (50, _), (51, _), (52, _), (53, _), (54, _), (55, _), (56, _), (57, _)]) (.cons rfl (.cons rfl (.cons rfl (.cons rfl (.cons rfl (.cons rfl (.cons rfl (.cons rfl (.cons rfl (.cons rfl (.cons rfl (.cons rfl (.cons rfl (.cons rfl (.cons rfl (.cons rfl (.cons rfl (.cons rfl (.cons rfl (.cons rfl (.cons rfl (.cons rfl (.cons rfl (.cons rfl (.cons rfl (.cons rfl (.cons rfl (.cons rfl (.cons rfl (.cons rfl (.cons rfl (.cons rfl (.cons rfl (.cons rfl (.cons rfl (.cons rfl (.cons rfl (.cons rfl (.cons rfl (.cons rfl (.cons rfl (.cons rfl (.cons rfl (.nil _)))))))))))))))))))))))))))))))))))))))))))) ?_
    refine cd_region ?_
    refine st (ev_move rfl) rfl rfl rfl ?_
    refine st (ev_add64 rfl rfl (by omega) (by omega)) rfl rfl rfl ?_
    refine st (ev_assign rfl) rfl rfl rfl ?_
    refine op_nil ?_
    have e0 : 0 + (i : Int).toNat * 1 = i := by omega
    have e1 : (4 * (i : Int)).toNat = 4 * i := by omega
    have e2 : (4 * (i : Int) + 1).toNat = 4 * i + 1 := by omega
    have e3 : (4 * (i : Int) + 2).toNat = 4 * i + 2 := by omega
    have e4 : (4 * (i : Int) + 3).toNat = 4 * i + 3 := by omega
    refine ax_heq (i := 7) (v' := .blk b7 (.cells (ints .u32 (w1 b (i + 1))).toArray 128)) rfl (by simp only [e0, e1, e2, e3, e4]; rfl) ?_
    exact at_again (i + 1) (by omega) (by omega) (.cons rfl (.cons rfl (.cons rfl (.cons rfl (.cons rfl (.cons rfl (.nil _))))))) (.cons rfl (.cons rfl (.cons rfl (.nil _)))) (.cons rfl (.cons rfl (.nil _)))
  ·
    obtain rfl : i = 16 := by omega
    refine cd_exit ?_
    refine ax_then_exit ?_
    refine ax_then_exit ?_
    refine ax_block_hit ?_
    refine ax_then ?_
    refine At.regs (L' := [(2, _), (3, _), (6, _), (7, _)]) (.cons rfl (.cons rfl (.cons rfl (.cons rfl (.nil _))))) ?_
    refine cd_seq ?_
    refine cd_seq ?_
    refine cd_region ?_
    refine st (ev_assign rfl) rfl rfl rfl ?_
    refine op_nil ?_
    refine ax_then ?_
    refine At.regs (L' := [(2, _), (3, _), (6, _), (7, _), (9, _)]) (.cons rfl (.cons rfl (.cons rfl (.cons rfl (.cons rfl (.nil _)))))) ?_
    refine cd_block ?_
    refine cd_loop (ι := Nat) (fun i => i ≤ 48) (fun i => 48 - i)
        (fun i => [(2, .pointer (some ⟨bk, 0, none⟩)), (3, .pointer (some ⟨b3, 0, none⟩)), (6, .pointer (some ⟨b6, 0, none⟩)), (7, .pointer (some ⟨b7, 0, none⟩)), (9, .int .i64 (16 + (i : Int)))])
        (fun i => [(3, .blk b3 (.cells (ints .u32 (s)).toArray 127)), (6, .blk b6 (.cells (ints .u32 (List.replicate 8 0)).toArray 127)), (7, .blk b7 (.cells (ints .u32 (w2 (w1 b 16) i)).toArray 128))])
        (fun i => [(1, .sl p 1 (ints .u8 b)), (2, .mem bk 0 (ints .u32 k))])
        0 (by omega) (.cons rfl (.cons rfl (.cons rfl (.cons rfl (.cons rfl (.nil _)))))) (.cons rfl (.cons rfl (.cons rfl (.nil _)))) (.cons rfl (.cons rfl (.nil _))) (fun i hi => ?_)
    have hw2 := w2_len (w1 b 16) i
    rw [w1_len] at hw2
    refine cd_seq ?_
    refine cd_seq ?_
    refine cd_region ?_
    refine st (ev_move rfl) rfl rfl rfl ?_
    refine st (ev_lss rfl rfl) rfl rfl rfl ?_
    refine op_nil ?_
    refine ax_then ?_
    refine At.regs (L' := [(2, _), (3, _), (6, _), (7, _), (9, _), (58, _), (59, _)]) (.cons rfl (.cons rfl (.cons rfl (.cons rfl (.cons rfl (.cons rfl (.cons rfl (.nil _)))))))) ?_
    refine cd_if rfl (fun hc59 => ?_) (fun hc59 => ?_)
    ·
      refine cd_skip ?_
      refine ax_then ?_
      refine At.regs (L' := [(2, _), (3, _), (6, _), (7, _), (9, _), (58, _), (59, _)]) (.cons rfl (.cons rfl (.cons rfl (.cons rfl (.cons rfl (.cons rfl (.cons rfl (.nil _)))))))) ?_
      refine cd_seq ?_
      refine cd_block ?_
      refine cd_seq ?_
      refine cd_region ?_
      refine st (ev_move rfl) rfl rfl rfl ?_
      refine st (ev_sub64 rfl rfl (by omega) (by omega)) rfl rfl rfl ?_
      refine st (ev_indexAddr_arr Try.underlying128 ty126 rfl rfl (by omega) (by omega)) rfl rfl rfl ?_
      refine st (ld_blk1 (h := 7) ty126 rfl rfl rfl (ints_get _ _ _ (by first | omega | (simp only [List.length_append, List.length_cons, List.length_nil, List.length_set, List.length_replicate, List.length_take, List.length_drop, ints_length, wr_length, comp_len, absorb_len, S0_len] <;> omega) | rfl))) rfl rfl rfl ?_
      refine st (ev_assign rfl) rfl rfl rfl ?_
      refine op_nil ?_
      refine ax_then ?_
      refine At.regs (L' := [(2, _), (3, _), (6, _), (7, _), (9, _), (10, _), (58, _), (59, _), (62, _), (63, _), (64, _), (65, _)]) (.cons rfl (.cons rfl (.cons rfl (.cons rfl (.cons rfl (.cons rfl (.cons rfl (.cons rfl (.cons rfl (.cons rfl (.cons rfl (.cons rfl (.nil _))))))))))))) ?_
      refine cd_seq ?_
      refine cd_region ?_
      refine st (ev_move rfl) rfl rfl rfl ?_
      refine st (ev_sub64 rfl rfl (by omega) (by omega)) rfl rfl rfl ?_
      refine st (ev_indexAddr_arr Try.underlying128 ty126 rfl rfl (by omega) (by omega)) rfl rfl rfl ?_
      refine st (ld_blk1 (h := 7) ty126 rfl rfl rfl (ints_get _ _ _ (by first | omega | (simp only [List.length_append, List.length_cons, List.length_nil, List.length_set, List.length_replicate, List.length_take, List.length_drop, ints_length, wr_length, comp_len, absorb_len, S0_len] <;> omega) | rfl))) rfl rfl rfl ?_
      refine st (ev_assign rfl) rfl rfl rfl ?_
      refine op_nil ?_
      refine ax_then ?_
      refine At.regs (L' := [(2, _), (3, _), (6, _), (7, _), (9, _), (10, _), (11, _), (58, _), (59, _), (62, _), (63, _), (64, _), (65, _), (66, _), (67, _), (68, _), (69, _)]) (.cons rfl (.cons rfl (.cons rfl (.cons rfl (.cons rfl (.cons rfl (.cons rfl (.cons rfl (.cons rfl (.cons rfl (.cons rfl (.cons rfl (.cons rfl (.cons rfl (.cons rfl (.cons rfl (.cons rfl (.nil _)))))))))))))))))) ?_
      refine cd_open_tail 28 hmix (by decide +kernel) ?_
      refine qt (ev_move rfl) rfl rfl rfl ?_
      refine qt (ev_move rfl) rfl rfl rfl ?_
      refine qt (ev_sub64 rfl rfl (by omega) (by omega)) rfl rfl rfl ?_
      refine qt (ev_indexAddr_arr Try.underlying128 ty126 rfl rfl (by omega) (by omega)) rfl rfl rfl ?_
      refine qt (ld_blk1 (h := 7) ty126 rfl rfl rfl (ints_get _ _ _ (by first | omega | (simp only [List.length_append, List.length_cons, List.length_nil, List.length_set, List.length_replicate, List.length_take, List.length_drop, ints_length, wr_length, comp_len, absorb_len, S0_len] <;> omega) | rfl))) rfl rfl rfl ?_
      refine qt (ev_move rfl) rfl rfl rfl ?_
      refine qt_callv has103 rfl (fun w1 sw => r_any _ _ w1 (by omega) (by omega)) rfl rfl ?_
      refine qt (ev_move rfl) rfl rfl rfl ?_
      refine qt_callv has103 rfl (fun w1 sw => r_any _ _ w1 (by omega) (by omega)) rfl rfl ?_
      refine qt (ev_xor rfl rfl) rfl rfl rfl ?_
      refine qt (ev_move rfl) rfl rfl rfl ?_
      refine qt (ev_shr rfl rfl (by omega)) rfl rfl rfl ?_
      refine qt (ev_xor rfl rfl) rfl rfl rfl ?_
      refine qt (ev_add rfl rfl) rfl rfl rfl ?_
      refine qt (ev_move rfl) rfl rfl rfl ?_
      refine qt (ev_sub64 rfl rfl (by omega) (by omega)) rfl rfl rfl ?_
      refine qt (ev_indexAddr_arr Try.underlying128 ty126 rfl rfl (by omega) (by omega)) rfl rfl rfl ?_
      refine qt (ld_blk1 (h := 7) ty126 rfl rfl rfl (ints_get _ _ _ (by first | omega | (simp only [List.length_append, List.length_cons, List.length_nil, List.length_set, List.length_replicate, List.length_take, List.length_drop, ints_length, wr_length, comp_len, absorb_len, S0_len] <;> omega) | rfl))) rfl rfl rfl ?_
      refine qt (ev_add rfl rfl) rfl rfl rfl ?_
      refine qt (ev_move rfl) rfl rfl rfl ?_
      refine qt_callv has103 rfl (fun w1 sw => r_any _ _ w1 (by omega) (by omega)) rfl rfl ?_
      refine qt (ev_move rfl) rfl rfl rfl ?_
      refine qt_callv has103 rfl (fun w1 sw => r_any _ _ w1 (by omega) (by omega)) rfl rfl ?_
      refine qt (ev_xor rfl rfl) rfl rfl rfl ?_
      refine qt (ev_move rfl) rfl rfl rfl ?_
      refine qt (ev_shr rfl rfl (by omega)) rfl rfl rfl ?_
      refine qt (ev_xor rfl rfl) rfl rfl rfl ?_
      refine qt (ev_add rfl rfl) rfl rfl rfl ?_
      refine qt_end ?_
      refine st (ev_indexAddr_arr Try.underlying128 ty126 rfl rfl (by omega) (by omega)) rfl rfl rfl ?_
      refine st_store1 7 ty126 rfl rfl rfl rfl (by first | omega | (simp only [List.length_append, List.length_cons, List.length_nil, List.length_set, List.length_replicate, List.length_take, List.length_drop, ints_length, wr_length, comp_len, absorb_len, S0_len] <;> omega) | rfl) rfl ?_
      refine at_heq (i := 7) rfl (by rw [ints_set]) ?_
      refine op_nil ?_
      refine ax_block ?_
      refine ax_then ?_
      refine At.regs (L' := [(2, _), (3, _), (6, _), (7, _), (9, _), (10, _), (11, _), (58, _), (59, _), (62, _), (63, _), (64, _), (65, _), (66, _), (67, _), (68, _), (69, _), (70, _), (71, _), (72, _), (73, _), (74, _), (75, _), (76, _), (77, _), (78, _), (79, _), (80, _), (81, _), (82, _), (83, _), (84, _), (85, _), (86, _), (87, _), (88, _), (89, _), (90, _), (91, _), (92, _), (93, _), (94, _), (95, _), (96, _), (97, _), (98, _)]) (.cons rfl (.cons rfl (.cons rfl (.cons rfl (.cons rfl (.cons rfl (.cons rfl (.cons rfl (.cons rfl (.cons rfl (.cons rfl (.cons rfl (.cons rfl (.cons rfl (.cons rfl (.cons rfl (.cons rfl (.cons rfl (.cons rfl (.cons rfl (.cons rfl (.cons rfl (.cons rfl (.cons rfl (.cons rfl (.cons rfl (.cons rfl (.cons rfl (.cons rfl (.cons rfl (.cons rfl (.cons rfl (.cons rfl (.cons rfl (.cons rfl (.cons rfl (.cons rfl (.cons rfl (.cons rfl (.cons rfl (.cons rfl (.cons rfl (.cons rfl (.cons rfl (.cons rfl (.cons rfl (.nil _))))))))))))))))))))))))))))))))))))))))))))))) ?_
      refine cd_region ?_
      refine st (ev_move rfl) rfl rfl rfl ?_
      refine st (ev_add64 rfl rfl (by omega) (by omega)) rfl rfl rfl ?_
      refine st (ev_assign rfl) rfl rfl rfl ?_
      refine op_nil ?_
      have e0 : 0 + (16 + (i : Int)).toNat * 1 = 16 + i := by omega
      have e1 : 0 + (16 + (i : Int) - 16).toNat * 1 = 16 + i - 16 := by omega
      have e2 : 0 + (16 + (i : Int) - 15).toNat * 1 = 16 + i - 15 := by omega
      have e3 : 0 + (16 + (i : Int) - 7).toNat * 1 = 16 + i - 7 := by omega
      have e4 : 0 + (16 + (i : Int) - 2).toNat * 1 = 16 + i - 2 := by omega
      refine ax_heq (i := 7) (v' := .blk b7 (.cells (ints .u32 (w2 (w1 b 16) (i + 1))).toArray 128)) rfl (by simp only [e0, e1, e2, e3, e4]; rfl) ?_
      exact at_again (i + 1) (by omega) (by omega) (.cons rfl (.cons rfl (.cons rfl (.cons rfl (.cons rfl (.nil _)))))) (.cons rfl (.cons rfl (.cons rfl (.nil _)))) (.cons rfl (.cons rfl (.nil _)))
    ·
      obtain rfl : i = 48 := by omega
      refine cd_exit ?_
      refine ax_then_exit ?_
      refine ax_then_exit ?_
      refine ax_block_hit ?_
      refine ax_then ?_
      refine At.regs (L' := [(2, _), (3, _), (6, _), (7, _)]) (.cons rfl (.cons rfl (.cons rfl (.cons rfl (.nil _))))) ?_
      refine cd_seq ?_
      refine cd_region ?_
      refine st (ld_blk_all (h := 3) ty127 rfl rfl rfl (by first | omega | (simp only [List.length_append, List.length_cons, List.length_nil, List.length_set, List.length_replicate, List.length_take, List.length_drop, ints_length, wr_length, comp_len, absorb_len, S0_len] <;> omega) | rfl)) rfl rfl rfl ?_
      refine st_alloc (h := 12) ty127 rfl rfl rfl (fun b12 => ?_)
      refine st_store_all 12 ty127 rfl rfl rfl rfl (by first | omega | (simp only [List.length_append, List.length_cons, List.length_nil, List.length_set, List.length_replicate, List.length_take, List.length_drop, ints_length, wr_length, comp_len, absorb_len, S0_len] <;> omega) | rfl) (ints_one _ _) (by first | omega | (simp only [List.length_append, List.length_cons, List.length_nil, List.length_set, List.length_replicate, List.length_take, List.length_drop, ints_length, wr_length, comp_len, absorb_len, S0_len] <;> omega) | rfl) rfl ?_
      refine op_nil ?_
      refine ax_then ?_
      refine At.regs (L' := [(2, _), (3, _), (6, _), (7, _), (12, _)]) (.cons rfl (.cons rfl (.cons rfl (.cons rfl (.cons rfl (.nil _)))))) ?_
      refine cd_seq ?_
      refine cd_seq ?_
      refine cd_region ?_
      refine st (ev_assign rfl) rfl rfl rfl ?_
      refine op_nil ?_
      refine ax_then ?_
      refine At.regs (L' := [(2, _), (3, _), (6, _), (7, _), (12, _), (13, _)]) (.cons rfl (.cons rfl (.cons rfl (.cons rfl (.cons rfl (.cons rfl (.nil _))))))) ?_
      refine cd_block ?_
      refine cd_loop (ι := Nat) (fun i => i ≤ 64) (fun i => 64 - i)
          (fun i => [(2, .pointer (some ⟨bk, 0, none⟩)), (3, .pointer (some ⟨b3, 0, none⟩)), (6, .pointer (some ⟨b6, 0, none⟩)), (7, .pointer (some ⟨b7, 0, none⟩)), (12, .pointer (some ⟨b12, 0, none⟩)), (13, .int .i64 (i : Int))])
          (fun i => [(3, .blk b3 (.cells (ints .u32 (s)).toArray 127)), (6, .blk b6 (.cells (ints .u32 (List.replicate 8 0)).toArray 127)), (7, .blk b7 (.cells (ints .u32 (sched b)).toArray 128)), (12, .blk b12 (.cells (ints .u32 (rnds k (sched b) s i)).toArray 127))])
          (fun i => [(1, .sl p 1 (ints .u8 b)), (2, .mem bk 0 (ints .u32 k))])
          0 (by omega) (.cons rfl (.cons rfl (.cons rfl (.cons rfl (.cons rfl (.cons rfl (.nil _))))))) (.cons rfl (.cons rfl (.cons rfl (.cons rfl (.nil _))))) (.cons rfl (.cons rfl (.nil _))) (fun i hi => ?_)
      have hv := rnds_len k (sched b) s hs i
      have hw := sched_len b
      refine cd_seq ?_
      refine cd_seq ?_
      refine cd_region ?_
      refine st (ev_move rfl) rfl rfl rfl ?_
      refine st (ev_lss rfl rfl) rfl rfl rfl ?_
      refine op_nil ?_
      refine ax_then ?_
      refine At.regs (L' := [(2, _), (3, _), (6, _), (7, _), (12, _), (13, _), (100, _), (101, _)]) (.cons rfl (.cons rfl (.cons rfl (.cons rfl (.cons rfl (.cons rfl (.cons rfl (.cons rfl (.nil _))))))))) ?_
      refine cd_if rfl (fun hc101 => ?_) (fun hc101 => ?_)
      ·
        refine cd_skip ?_
        refine ax_then ?_
        refine At.regs (L' := [(2, _), (3, _), (6, _), (7, _), (12, _), (13, _), (100, _), (101, _)]) (.cons rfl (.cons rfl (.cons rfl (.cons rfl (.cons rfl (.cons rfl (.cons rfl (.cons rfl (.nil _))))))))) ?_
        refine cd_seq ?_
        refine cd_block ?_
        refine cd_seq ?_
        refine cd_open hmix (by decide +kernel) ?_
        refine qt (ev_indexAddr_arrm 0 rfl Try.underlying127 ty126 rfl rfl (by decide) (by decide)) rfl rfl rfl ?_
        refine qt (ld_blk1 (h := 12) ty126 rfl rfl rfl (ints_get _ _ _ (by first | omega | (simp only [List.length_append, List.length_cons, List.length_nil, List.length_set, List.length_replicate, List.length_take, List.length_drop, ints_length, wr_length, comp_len, absorb_len, S0_len] <;> omega) | rfl))) rfl rfl rfl ?_
        refine qt (ev_indexAddr_arrm 4 rfl Try.underlying127 ty126 rfl rfl (by decide) (by decide)) rfl rfl rfl ?_
        refine qt (ld_blk1 (h := 12) ty126 rfl rfl rfl (ints_get _ _ _ (by first | omega | (simp only [List.length_append, List.length_cons, List.length_nil, List.length_set, List.length_replicate, List.length_take, List.length_drop, ints_length, wr_length, comp_len, absorb_len, S0_len] <;> omega) | rfl))) rfl rfl rfl ?_
        refine qt (ev_assign rfl) rfl rfl rfl ?_
        refine qt (ev_assign rfl) rfl rfl rfl ?_
        refine qt_end ?_
        refine op_nil ?_
        refine ax_then ?_
        refine At.regs (L' := [(2, _), (3, _), (6, _), (7, _), (12, _), (13, _), (14, _), (15, _), (100, _), (101, _), (104, _), (105, _), (106, _), (107, _)]) (.cons rfl (.cons rfl (.cons rfl (.cons rfl (.cons rfl (.cons rfl (.cons rfl (.cons rfl (.cons rfl (.cons rfl (.cons rfl (.cons rfl (.cons rfl (.cons rfl (.nil _))))))))))))))) ?_
        refine cd_seq ?_
        refine cd_open hmix (by decide +kernel) ?_
        refine qt (ev_indexAddr_arrm 7 rfl Try.underlying127 ty126 rfl rfl (by decide) (by decide)) rfl rfl rfl ?_
        refine qt (ld_blk1 (h := 12) ty126 rfl rfl rfl (ints_get _ _ _ (by first | omega | (simp only [List.length_append, List.length_cons, List.length_nil, List.length_set, List.length_replicate, List.length_take, List.length_drop, ints_length, wr_length, comp_len, absorb_len, S0_len] <;> omega) | rfl))) rfl rfl rfl ?_
        refine qt (ev_move rfl) rfl rfl rfl ?_
        refine qt_callv has103 rfl (fun w1 sw => r_any _ _ w1 (by omega) (by omega)) rfl rfl ?_
        refine qt (ev_move rfl) rfl rfl rfl ?_
        refine qt_callv has103 rfl (fun w1 sw => r_any _ _ w1 (by omega) (by omega)) rfl rfl ?_
        refine qt (ev_xor rfl rfl) rfl rfl rfl ?_
        refine qt (ev_move rfl) rfl rfl rfl ?_
        refine qt_callv has103 rfl (fun w1 sw => r_any _ _ w1 (by omega) (by omega)) rfl rfl ?_
        refine qt (ev_xor rfl rfl) rfl rfl rfl ?_
        refine qt (ev_add rfl rfl) rfl rfl rfl ?_
        refine qt (ev_move rfl) rfl rfl rfl ?_
        refine qt (ev_indexAddr_arrm 5 rfl Try.underlying127 ty126 rfl rfl (by decide) (by decide)) rfl rfl rfl ?_
        refine qt (ld_blk1 (h := 12) ty126 rfl rfl rfl (ints_get _ _ _ (by first | omega | (simp only [List.length_append, List.length_cons, List.length_nil, List.length_set, List.length_replicate, List.length_take, List.length_drop, ints_length, wr_length, comp_len, absorb_len, S0_len] <;> omega) | rfl))) rfl rfl rfl ?_
        refine qt (ev_and rfl rfl) rfl rfl rfl ?_
        refine qt (ev_move rfl) rfl rfl rfl ?_
        refine qt (ev_inot rfl) rfl rfl rfl ?_
        refine qt (ev_indexAddr_arrm 6 rfl Try.underlying127 ty126 rfl rfl (by decide) (by decide)) rfl rfl rfl ?_
        refine qt (ld_blk1 (h := 12) ty126 rfl rfl rfl (ints_get _ _ _ (by first | omega | (simp only [List.length_append, List.length_cons, List.length_nil, List.length_set, List.length_replicate, List.length_take, List.length_drop, ints_length, wr_length, comp_len, absorb_len, S0_len] <;> omega) | rfl))) rfl rfl rfl ?_
        refine qt (ev_and rfl rfl) rfl rfl rfl ?_
        refine qt (ev_xor rfl rfl) rfl rfl rfl ?_
        refine qt (ev_add rfl rfl) rfl rfl rfl ?_
        refine qt (ev_move rfl) rfl rfl rfl ?_
        refine qt (ev_move rfl) rfl rfl rfl ?_
        refine qt (ev_nilCheck rfl) rfl rfl rfl ?_
        refine qt (ev_indexAddr_arr Try.underlying128 ty126 rfl rfl (by omega) (by omega)) rfl rfl rfl ?_
        refine qt (ld_mem1 (h := 2) ty126 rfl rfl rfl (Nat.zero_add _).symm (ints_get _ _ _ (by first | omega | (simp only [List.length_append, List.length_cons, List.length_nil, List.length_set, List.length_replicate, List.length_take, List.length_drop, ints_length, wr_length, comp_len, absorb_len, S0_len] <;> omega) | rfl))) rfl rfl rfl ?_
        refine qt (ev_add rfl rfl) rfl rfl rfl ?_
        refine qt (ev_move rfl) rfl rfl rfl ?_
        refine qt (ev_indexAddr_arr Try.underlying128 ty126 rfl rfl (by omega) (by omega)) rfl rfl rfl ?_
        refine qt (ld_blk1 (h := 7) ty126 rfl rfl rfl (ints_get _ _ _ (by first | omega | (simp only [List.length_append, List.length_cons, List.length_nil, List.length_set, List.length_replicate, List.length_take, List.length_drop, ints_length, wr_length, comp_len, absorb_len, S0_len] <;> omega) | rfl))) rfl rfl rfl ?_
        refine qt (ev_add rfl rfl) rfl rfl rfl ?_
        refine qt (ev_assign rfl) rfl rfl rfl ?_
        refine qt_end ?_
        refine op_nil ?_
        refine ax_then ?_
        refine At.regs (L' := [(2, _), (3, _), (6, _), (7, _), (12, _), (13, _), (14, _), (15, _), (16, _), (100, _), (101, _), (104, _), (105, _), (106, _), (107, _), (108, _), (109, _), (110, _), (111, _), (112, _), (113, _), (114, _), (115, _), (116, _), (117, _), (118, _), (119, _), (120, _), (121, _), (122, _), (123, _), (124, _), (125, _), (126, _), (127, _), (128, _), (129, _), (130, _), (131, _), (132, _), (133, _), (134, _), (135, _), (136, _), (137, _), (138, _), (139, _)]) (.cons rfl (.cons rfl (.cons rfl (.cons rfl (.cons rfl (.cons rfl (.cons rfl (.cons rfl (.cons rfl (.cons rfl (.cons rfl (.cons rfl (.cons rfl (.cons rfl (.cons rfl (.cons rfl (.cons rfl (.cons rfl (.cons rfl (.cons rfl (.cons rfl (.cons rfl (.cons rfl (.cons rfl (.cons rfl (.cons rfl (.cons rfl (.cons rfl (.cons rfl (.cons rfl (.cons rfl (.cons rfl (.cons rfl (.cons rfl (.cons rfl (.cons rfl (.cons rfl (.cons rfl (.cons rfl (.cons rfl (.cons rfl (.cons rfl (.cons rfl (.cons rfl (.cons rfl (.cons rfl (.cons rfl (.nil _)))))))))))))))))))))))))))))))))))))))))))))))) ?_
        refine cd_seq ?_
        refine cd_open hmix (by decide +kernel) ?_
        refine qt (ev_move rfl) rfl rfl rfl ?_
        refine qt_callv has103 rfl (fun w1 sw => r_any _ _ w1 (by omega) (by omega)) rfl rfl ?_
        refine qt (ev_move rfl) rfl rfl rfl ?_
        refine qt_callv has103 rfl (fun w1 sw => r_any _ _ w1 (by omega) (by omega)) rfl rfl ?_
        refine qt (ev_xor rfl rfl) rfl rfl rfl ?_
        refine qt (ev_move rfl) rfl rfl rfl ?_
        refine qt_callv has103 rfl (fun w1 sw => r_any _ _ w1 (by omega) (by omega)) rfl rfl ?_
        refine qt (ev_xor rfl rfl) rfl rfl rfl ?_
        refine qt (ev_move rfl) rfl rfl rfl ?_
        refine qt (ev_indexAddr_arrm 1 rfl Try.underlying127 ty126 rfl rfl (by decide) (by decide)) rfl rfl rfl ?_
        refine qt (ld_blk1 (h := 12) ty126 rfl rfl rfl (ints_get _ _ _ (by first | omega | (simp only [List.length_append, List.length_cons, List.length_nil, List.length_set, List.length_replicate, List.length_take, List.length_drop, ints_length, wr_length, comp_len, absorb_len, S0_len] <;> omega) | rfl))) rfl rfl rfl ?_
        refine qt (ev_and rfl rfl) rfl rfl rfl ?_
        refine qt (ev_move rfl) rfl rfl rfl ?_
        refine qt (ev_indexAddr_arrm 2 rfl Try.underlying127 ty126 rfl rfl (by decide) (by decide)) rfl rfl rfl ?_
        refine qt (ld_blk1 (h := 12) ty126 rfl rfl rfl (ints_get _ _ _ (by first | omega | (simp only [List.length_append, List.length_cons, List.length_nil, List.length_set, List.length_replicate, List.length_take, List.length_drop, ints_length, wr_length, comp_len, absorb_len, S0_len] <;> omega) | rfl))) rfl rfl rfl ?_
        refine qt (ev_and rfl rfl) rfl rfl rfl ?_
        refine qt (ev_xor rfl rfl) rfl rfl rfl ?_
        refine qt (ev_indexAddr_arrm 1 rfl Try.underlying127 ty126 rfl rfl (by decide) (by decide)) rfl rfl rfl ?_
        refine qt (ld_blk1 (h := 12) ty126 rfl rfl rfl (ints_get _ _ _ (by first | omega | (simp only [List.length_append, List.length_cons, List.length_nil, List.length_set, List.length_replicate, List.length_take, List.length_drop, ints_length, wr_length, comp_len, absorb_len, S0_len] <;> omega) | rfl))) rfl rfl rfl ?_
        refine qt (ev_indexAddr_arrm 2 rfl Try.underlying127 ty126 rfl rfl (by decide) (by decide)) rfl rfl rfl ?_
        refine qt (ld_blk1 (h := 12) ty126 rfl rfl rfl (ints_get _ _ _ (by first | omega | (simp only [List.length_append, List.length_cons, List.length_nil, List.length_set, List.length_replicate, List.length_take, List.length_drop, ints_length, wr_length, comp_len, absorb_len, S0_len] <;> omega) | rfl))) rfl rfl rfl ?_
        refine qt (ev_and rfl rfl) rfl rfl rfl ?_
        refine qt (ev_xor rfl rfl) rfl rfl rfl ?_
        refine qt (ev_add rfl rfl) rfl rfl rfl ?_
        refine qt (ev_assign rfl) rfl rfl rfl ?_
        refine qt_end ?_
        refine op_nil ?_
        refine ax_then ?_
        refine At.regs (L' := [(2, _), (3, _), (6, _), (7, _), (12, _), (13, _), (14, _), (15, _), (16, _), (17, _), (100, _), (101, _), (104, _), (105, _), (106, _), (107, _), (108, _), (109, _), (110, _), (111, _), (112, _), (113, _), (114, _), (115, _), (116, _), (117, _), (118, _), (119, _), (120, _), (121, _), (122, _), (123, _), (124, _), (125, _), (126, _), (127, _), (128, _), (129, _), (130, _), (131, _), (132, _), (133, _), (134, _), (135, _), (136, _), (137, _), (138, _), (139, _), (140, _), (141, _), (142, _), (143, _), (144, _), (145, _), (146, _), (147, _), (148, _), (149, _), (150, _), (151, _), (152, _), (153, _), (154, _), (155, _), (156, _), (157, _), (158, _), (159, _), (160, _), (161, _), (162, _), (163, _)]) (.cons rfl (.cons rfl (.cons rfl (.cons rfl (.cons rfl (.cons rfl (.cons rfl (.cons rfl (.cons rfl (.cons rfl (.cons rfl (.cons rfl (.cons rfl (.cons rfl (.cons rfl (.cons rfl (.cons rfl (.cons rfl (.cons rfl (.cons rfl (.cons rfl (.cons rfl (.cons rfl (.cons rfl (.cons rfl (.cons rfl (.cons rfl (.cons rfl (.cons rfl (.cons rfl (.cons rfl (.cons rfl (.cons rfl (.cons rfl (.cons rfl (.cons rfl (.cons rfl (.cons rfl (.cons rfl (.cons rfl (.cons rfl (.cons rfl (.cons rfl (.cons rfl (.cons rfl (.cons rfl (.cons rfl (.cons rfl (.cons rfl (.cons rfl (.cons rfl (.cons rfl (.cons rfl (.cons rfl (.cons rfl (.cons rfl (.cons rfl (.cons rfl (.cons rfl (.cons rfl (.cons rfl (.cons rfl (.cons rfl (.cons rfl (.cons rfl (.cons rfl (.cons rfl (.cons rfl (.cons rfl (.cons rfl (.cons rfl (.cons rfl (.nil _))))))))))))))))))))))))))))))))))))))))))))))))))))))))))))))))))))))))) ?_
        refine cd_region ?_
        refine st (ev_move rfl) rfl rfl rfl ?_
        refine st (ev_move rfl) rfl rfl rfl ?_
        refine st (ev_add rfl rfl) rfl rfl rfl ?_
        refine st (ev_move rfl) rfl rfl rfl ?_
        refine st (ev_indexAddr_arrm 1 rfl Try.underlying127 ty126 rfl rfl (by decide) (by decide)) rfl rfl rfl ?_
        refine st (ld_blk1 (h := 12) ty126 rfl rfl rfl (ints_get _ _ _ (by first | omega | (simp only [List.length_append, List.length_cons, List.length_nil, List.length_set, List.length_replicate, List.length_take, List.length_drop, ints_length, wr_length, comp_len, absorb_len, S0_len] <;> omega) | rfl))) rfl rfl rfl ?_
        refine st (ev_indexAddr_arrm 2 rfl Try.underlying127 ty126 rfl rfl (by decide) (by decide)) rfl rfl rfl ?_
        refine st (ld_blk1 (h := 12) ty126 rfl rfl rfl (ints_get _ _ _ (by first | omega | (simp only [List.length_append, List.length_cons, List.length_nil, List.length_set, List.length_replicate, List.length_take, List.length_drop, ints_length, wr_length, comp_len, absorb_len, S0_len] <;> omega) | rfl))) rfl rfl rfl ?_
        refine st (ev_indexAddr_arrm 3 rfl Try.underlying127 ty126 rfl rfl (by decide) (by decide)) rfl rfl rfl ?_
        refine st (ld_blk1 (h := 12) ty126 rfl rfl rfl (ints_get _ _ _ (by first | omega | (simp only [List.length_append, List.length_cons, List.length_nil, List.length_set, List.length_replicate, List.length_take, List.length_drop, ints_length, wr_length, comp_len, absorb_len, S0_len] <;> omega) | rfl))) rfl rfl rfl ?_
        refine st (ev_move rfl) rfl rfl rfl ?_
        refine st (ev_add rfl rfl) rfl rfl rfl ?_
        refine st (ev_move rfl) rfl rfl rfl ?_
        refine st (ev_indexAddr_arrm 5 rfl Try.underlying127 ty126 rfl rfl (by decide) (by decide)) rfl rfl rfl ?_
        refine st (ld_blk1 (h := 12) ty126 rfl rfl rfl (ints_get _ _ _ (by first | omega | (simp only [List.length_append, List.length_cons, List.length_nil, List.length_set, List.length_replicate, List.length_take, List.length_drop, ints_length, wr_length, comp_len, absorb_len, S0_len] <;> omega) | rfl))) rfl rfl rfl ?_
        refine st (ev_indexAddr_arrm 6 rfl Try.underlying127 ty126 rfl rfl (by decide) (by decide)) rfl rfl rfl ?_
        refine st (ld_blk1 (h := 12) ty126 rfl rfl rfl (ints_get _ _ _ (by first | omega | (simp only [List.length_append, List.length_cons, List.length_nil, List.length_set, List.length_replicate, List.length_take, List.length_drop, ints_length, wr_length, comp_len, absorb_len, S0_len] <;> omega) | rfl))) rfl rfl rfl ?_
        refine st (ev_build_ints (xs := [_, _, _, _, _, _, _, _]) (zs := List.replicate 8 0) ty127 rfl ty126 rfl rfl rfl rfl rfl) rfl rfl rfl ?_
        refine st_store_all 12 ty127 rfl rfl rfl rfl (by first | omega | (simp only [List.length_append, List.length_cons, List.length_nil, List.length_set, List.length_replicate, List.length_take, List.length_drop, ints_length, wr_length, comp_len, absorb_len, S0_len] <;> omega) | rfl) (ints_one _ _) (by first | omega | (simp only [List.length_append, List.length_cons, List.length_nil, List.length_set, List.length_replicate, List.length_take, List.length_drop, ints_length, wr_length, comp_len, absorb_len, S0_len] <;> omega) | rfl) rfl ?_
        refine op_nil ?_
        refine ax_block ?_
        refine ax_then ?_
        refine At.regs (L' := [(2, _), (3, _), (6, _), (7, _), (12, _), (13, _), (14, _), (15, _), (16, _), (17, _), (100, _), (101, _), (104, _), (105, _), (106, _), (107, _), (108, _), (109, _), (110, _), (111, _), (112, _), (113, _), (114, _), (115, _), (116, _), (117, _), (118, _), (119, _), (120, _), (121, _), (122, _), (123, _), (124, _), (125, _), (126, _), (127, _), (128, _), (129, _), (130, _), (131, _), (132, _), (133, _), (134, _), (135, _), (136, _), (137, _), (138, _), (139, _), (140, _), (141, _), (142, _), (143, _), (144, _), (145, _), (146, _), (147, _), (148, _), (149, _), (150, _), (151, _), (152, _), (153, _), (154, _), (155, _), (156, _), (157, _), (158, _), (159, _), (160, _), (161, _), (162, _), (163, _), (164, _), (165, _), (166, _), (167, _), (168, _), (169, _), (170, _), (171, _), (172, _), (173, _), (174, _), (175, _), (176, _), (177, _), (178, _), (179, _), (180, _), (181, _)]) (.cons rfl (.cons rfl (.cons rfl (.cons rfl (.cons rfl (.cons rfl (.cons rfl (.cons rfl (.cons rfl (.cons rfl (.cons rfl (.cons rfl (.cons rfl (.cons rfl (.cons rfl (.cons rfl (.cons rfl (.cons rfl (.cons rfl (.cons rfl (.cons rfl (.cons rfl (.cons rfl (.cons rfl (.cons rfl (.cons rfl (.cons rfl (.cons rfl (.cons rfl (.cons rfl (.cons rfl (.cons rfl (.cons rfl (.cons rfl (.cons rfl (.cons rfl (.cons rfl (.cons rfl (.cons rfl (.cons rfl (.cons rfl (.cons rfl (.cons rfl (.cons rfl (.cons rfl (.cons rfl (.cons rfl (.cons rfl (.cons rfl (.cons rfl (.cons rfl (.cons rfl (.cons rfl (.cons rfl (.cons rfl (.cons rfl (.cons rfl (.cons rfl (.cons rfl (.cons rfl (.cons rfl (.cons rfl (.cons rfl (.cons rfl (.cons rfl (.cons rfl (.cons rfl (.cons rfl (.cons rfl (.cons rfl (.cons rfl (.cons rfl (.cons rfl (.cons rfl (.cons rfl (.cons rfl (.cons rfl (.cons rfl (.cons rfl (.cons rfl (.cons rfl (.cons rfl (.cons rfl (.cons rfl (.cons rfl (.cons rfl (.cons rfl (.cons rfl (.cons rfl (.cons rfl (.nil _))))))))))))))))))))))))))))))))))))))))))))))))))))))))))))))))))))))))))))))))))))))))))) ?_
        refine cd_region ?_
        refine st (ev_move rfl) rfl rfl rfl ?_
        refine st (ev_add64 rfl rfl (by omega) (by omega)) rfl rfl rfl ?_
        refine st (ev_assign rfl) rfl rfl rfl ?_
        refine op_nil ?_
        have e0 : 0 + (i : Int).toNat * 1 = i := by omega
        refine ax_heq (i := 12) (v' := .blk b12 (.cells (ints .u32 (rnds k (sched b) s (i + 1))).toArray 127)) rfl (by simp only [e0]; simp only [rnds, rnd, tt, uu, add, b0, b1, ch, mj]) ?_
        exact at_again (i + 1) (by omega) (by omega) (.cons rfl (.cons rfl (.cons rfl (.cons rfl (.cons rfl (.cons rfl (.nil _))))))) (.cons rfl (.cons rfl (.cons rfl (.cons rfl (.nil _))))) (.cons rfl (.cons rfl (.nil _)))
      ·
        obtain rfl : i = 64 := by omega
        refine cd_exit ?_
        refine ax_then_exit ?_
        refine ax_then_exit ?_
        refine ax_block_hit ?_
        refine ax_then ?_
        refine At.regs (L' := [(3, _), (6, _), (12, _)]) (.cons rfl (.cons rfl (.cons rfl (.nil _)))) ?_
        refine cd_seq ?_
        refine cd_seq ?_
        refine cd_region ?_
        refine st (ev_assign rfl) rfl rfl rfl ?_
        refine op_nil ?_
        refine ax_then ?_
        refine At.regs (L' := [(3, _), (6, _), (12, _), (18, _)]) (.cons rfl (.cons rfl (.cons rfl (.cons rfl (.nil _))))) ?_
        refine cd_block ?_
        refine cd_loop (ι := Nat) (fun i => i ≤ 8) (fun i => 8 - i)
            (fun i => [(3, .pointer (some ⟨b3, 0, none⟩)), (6, .pointer (some ⟨b6, 0, none⟩)), (12, .pointer (some ⟨b12, 0, none⟩)), (18, .int .i64 (i : Int))])
            (fun i => [(3, .blk b3 (.cells (ints .u32 (adds s (rnds k (sched b) s 64) i)).toArray 127)), (6, .blk b6 (.cells (ints .u32 (List.replicate 8 0)).toArray 127)), (12, .blk b12 (.cells (ints .u32 (rnds k (sched b) s 64)).toArray 127))])
            (fun i => [(1, .sl p 1 (ints .u8 b)), (2, .mem bk 0 (ints .u32 k))])
            0 (by omega) (.cons rfl (.cons rfl (.cons rfl (.cons rfl (.nil _))))) (.cons rfl (.cons rfl (.cons rfl (.nil _)))) (.cons rfl (.cons rfl (.nil _))) (fun i hi => ?_)
        have hv := rnds_len k (sched b) s hs 64
        have hw := adds_len s (rnds k (sched b) s 64) i
        refine cd_seq ?_
        refine cd_seq ?_
        refine cd_region ?_
        refine st (ev_move rfl) rfl rfl rfl ?_
        refine st (ev_lss rfl rfl) rfl rfl rfl ?_
        refine op_nil ?_
        refine ax_then ?_
        refine At.regs (L' := [(3, _), (6, _), (12, _), (18, _), (182, _), (183, _)]) (.cons rfl (.cons rfl (.cons rfl (.cons rfl (.cons rfl (.cons rfl (.nil _))))))) ?_
        refine cd_if rfl (fun hc183 => ?_) (fun hc183 => ?_)
        ·
          refine cd_skip ?_
          refine ax_then ?_
          refine At.regs (L' := [(3, _), (6, _), (12, _), (18, _), (182, _), (183, _)]) (.cons rfl (.cons rfl (.cons rfl (.cons rfl (.cons rfl (.cons rfl (.nil _))))))) ?_
          refine cd_seq ?_
          refine cd_block ?_
          refine cd_open_tail 8 hmix (by decide +kernel) ?_
          refine qt (ev_move rfl) rfl rfl rfl ?_
          refine qt (ev_move rfl) rfl rfl rfl ?_
          refine qt (ev_indexAddr_arr Try.underlying127 ty126 rfl rfl (by omega) (by omega)) rfl rfl rfl ?_
          refine qt (ld_blk1 (h := 3) ty126 rfl rfl rfl (ints_get _ _ _ (by first | omega | (simp only [List.length_append, List.length_cons, List.length_nil, List.length_set, List.length_replicate, List.length_take, List.length_drop, ints_length, wr_length, comp_len, absorb_len, S0_len] <;> omega) | rfl))) rfl rfl rfl ?_
          refine qt (ev_move rfl) rfl rfl rfl ?_
          refine qt (ev_indexAddr_arr Try.underlying127 ty126 rfl rfl (by omega) (by omega)) rfl rfl rfl ?_
          refine qt (ld_blk1 (h := 12) ty126 rfl rfl rfl (ints_get _ _ _ (by first | omega | (simp only [List.length_append, List.length_cons, List.length_nil, List.length_set, List.length_replicate, List.length_take, List.length_drop, ints_length, wr_length, comp_len, absorb_len, S0_len] <;> omega) | rfl))) rfl rfl rfl ?_
          refine qt (ev_add rfl rfl) rfl rfl rfl ?_
          refine qt_end ?_
          refine st (ev_indexAddr_arr Try.underlying127 ty126 rfl rfl (by omega) (by omega)) rfl rfl rfl ?_
          refine st_store1 3 ty126 rfl rfl rfl rfl (by first | omega | (simp only [List.length_append, List.length_cons, List.length_nil, List.length_set, List.length_replicate, List.length_take, List.length_drop, ints_length, wr_length, comp_len, absorb_len, S0_len] <;> omega) | rfl) rfl ?_
          refine at_heq (i := 3) rfl (by rw [ints_set]) ?_
          refine op_nil ?_
          refine ax_block ?_
          refine ax_then ?_
          refine At.regs (L' := [(3, _), (6, _), (12, _), (18, _), (182, _), (183, _), (186, _), (187, _), (188, _), (189, _), (190, _), (191, _), (192, _), (193, _), (194, _)]) (.cons rfl (.cons rfl (.cons rfl (.cons rfl (.cons rfl (.cons rfl (.cons rfl (.cons rfl (.cons rfl (.cons rfl (.cons rfl (.cons rfl (.cons rfl (.cons rfl (.cons rfl (.nil _)))))))))))))))) ?_
          refine cd_region ?_
          refine st (ev_move rfl) rfl rfl rfl ?_
          refine st (ev_add64 rfl rfl (by omega) (by omega)) rfl rfl rfl ?_
          refine st (ev_assign rfl) rfl rfl rfl ?_
          refine op_nil ?_
          have e0 : 0 + (i : Int).toNat * 1 = i := by omega
          refine ax_heq (i := 3) (v' := .blk b3 (.cells (ints .u32 (adds s (rnds k (sched b) s 64) (i + 1))).toArray 127)) rfl (by simp only [e0]; rfl) ?_
          exact at_again (i + 1) (by omega) (by omega) (.cons rfl (.cons rfl (.cons rfl (.cons rfl (.nil _))))) (.cons rfl (.cons rfl (.cons rfl (.nil _)))) (.cons rfl (.cons rfl (.nil _)))
        ·
          obtain rfl : i = 8 := by omega
          have hco := comp_len k s b
          refine cd_exit ?_
          refine ax_then_exit ?_
          refine ax_then_exit ?_
          refine ax_block_hit ?_
          refine ax_then ?_
          refine At.regs (L' := [(3, _), (6, _)]) (.cons rfl (.cons rfl (.nil _))) ?_
          refine cd_seq ?_
          refine at_heq (i := 3) (v' := .blk b3 (.cells (ints .u32 (comp k s b)).toArray 127)) rfl rfl ?_
          refine cd_region ?_
          refine st (ld_blk_all (h := 3) ty127 rfl rfl rfl (by first | omega | (simp only [List.length_append, List.length_cons, List.length_nil, List.length_set, List.length_replicate, List.length_take, List.length_drop, ints_length, wr_length, comp_len, absorb_len, S0_len] <;> omega) | rfl)) rfl rfl rfl ?_
          refine st_store_all 6 ty127 rfl rfl rfl rfl (by first | omega | (simp only [List.length_append, List.length_cons, List.length_nil, List.length_set, List.length_replicate, List.length_take, List.length_drop, ints_length, wr_length, comp_len, absorb_len, S0_len] <;> omega) | rfl) (ints_one _ _) (by first | omega | (simp only [List.length_append, List.length_cons, List.length_nil, List.length_set, List.length_replicate, List.length_take, List.length_drop, ints_length, wr_length, comp_len, absorb_len, S0_len] <;> omega) | rfl) rfl ?_
          refine op_nil ?_
          refine ax_then ?_
          refine At.regs (L' := [(6, _)]) (.cons rfl (.nil _)) ?_
          refine cd_ret ?_
          refine rt_cell (h0 := 6) (.inl rfl) Try.results99 ty127 rfl rfl rfl (by first | omega | (simp only [List.length_append, List.length_cons, List.length_nil, List.length_set, List.length_replicate, List.length_take, List.length_drop, ints_length, wr_length, comp_len, absorb_len, S0_len] <;> omega) | rfl) ?_
          exact fun w1 sw => ⟨rfl, sw.gives (.nil _)⟩
set_option maxRecDepth 20000 in
set_option maxHeartbeats 4000000 in
theorem rsum_any (p : Value) (b : List Int) (w : World) (hl : b.length ≤ 140737488352000) (h : Rd w p 1 (ints .u8 b)) : Calls Try.prog 80 #[p] w (PostV w (.agg (ints .u8 (sha b)).toArray)) := by
  refine calls_at (vs := [p]) (X := []) (H := []) (F := [(0, .sl p 1 (ints .u8 b))]) 73 Try.func80 rfl rfl rfl (Sat.rd0 0 h) ?_
  refine cd_seq ?_
  refine cd_region ?_
  refine st_alloc (h := 2) ty39 rfl rfl rfl (fun b2 => ?_)
  refine op_nil ?_
  refine ax_then ?_
  refine At.regs (L' := [(0, _), (2, _)]) (.cons rfl (.cons rfl (.nil _))) ?_
  refine cd_seq ?_
  refine cd_region ?_
  refine st_bsi (h := 11) (xs := []) Try.underlying22 ty5 (by decide) rfl rfl (by decide) rfl rfl (fun b11 => ?_)
  refine st (ev_move rfl) rfl rfl rfl ?_
  refine st_appendi (h := 11) Try.underlying22 Try.underlying22 ty5 rfl rfl rfl rfl (fun w1 sw => sw.sl_rd (h := 0) rfl) (by first | omega | (simp only [List.length_append, List.length_cons, List.length_nil, List.length_set, List.length_replicate, List.length_take, List.length_drop, ints_length, wr_length, comp_len, absorb_len, S0_len] <;> omega)) (by decide) rfl rfl (fun v13 => ?_)
  refine st_bsi (h := 14) (xs := [_]) Try.underlying22 ty5 (by decide) rfl rfl (by decide) rfl rfl (fun b14 => ?_)
  refine st_appendi (h := 11) Try.underlying22 Try.underlying22 ty5 rfl rfl rfl rfl (fun w1 sw => sw.own_rd (h := 14) rfl) (by first | omega | (simp only [List.length_append, List.length_cons, List.length_nil, List.length_set, List.length_replicate, List.length_take, List.length_drop, ints_length, wr_length, comp_len, absorb_len, S0_len] <;> omega)) (by decide) rfl rfl (fun v15 => ?_)
  refine st (ev_assign rfl) rfl rfl rfl ?_
  refine op_nil ?_
  refine ax_then ?_
  refine At.regs (L' := [(0, _), (2, _), (3, _)]) (.cons rfl (.cons rfl (.cons rfl (.nil _)))) ?_
  refine cd_seq ?_
  refine cd_block ?_
  refine at_heq (i := 11) (v' := .own (v15) 5 1 (ints .u8 (b ++ [128] ++ List.replicate 0 0))) rfl (by simp) ?_
  refine cd_loop (ι := Nat × Value) (fun x => x.1 ≤ zs b.length) (fun x => 64 - x.1)
      (fun x => [(0, p), (2, .pointer (some ⟨b2, 0, none⟩)), (3, x.2)])
      (fun x => [(2, .blk b2 (.cells (ints .u8 (List.replicate 32 0)).toArray 39)), (11, .own (x.2) 5 1 (ints .u8 (b ++ [128] ++ List.replicate x.1 0)))])
      (fun x => [(0, .sl p 1 (ints .u8 b))])
      (0, v15) (Nat.zero_le _) (.cons rfl (.cons rfl (.cons rfl (.nil _)))) (.cons rfl (.cons rfl (.nil _))) (.cons rfl (.nil _)) (fun x hi => ?_)
  have hzs : zs b.length < 64 := by unfold zs; omega
  have hz56 : (b.length + 1 + zs b.length) % 64 = 56 := by unfold zs; omega
  refine cd_seq ?_
  refine cd_seq ?_
  refine cd_region ?_
  refine st (ev_move rfl) rfl rfl rfl ?_
  refine st (ev_len_owni (h := 11) Try.underlying22 rfl rfl) rfl rfl rfl ?_
  refine st (ev_rem64 rfl rfl (by omega) (by omega)) rfl rfl rfl ?_
  refine st (ev_neq rfl rfl) rfl rfl rfl ?_
  refine op_nil ?_
  refine ax_then ?_
  refine At.regs (L' := [(0, _), (2, _), (3, _), (16, _), (17, _), (18, _), (19, _)]) (.cons rfl (.cons rfl (.cons rfl (.cons rfl (.cons rfl (.cons rfl (.cons rfl (.nil _)))))))) ?_
  refine cd_if rfl (fun hc19 => ?_) (fun hc19 => ?_)
  ·
    refine cd_skip ?_
    refine ax_then ?_
    refine At.regs (L' := [(0, _), (2, _), (3, _), (16, _), (17, _), (18, _), (19, _)]) (.cons rfl (.cons rfl (.cons rfl (.cons rfl (.cons rfl (.cons rfl (.cons rfl (.nil _)))))))) ?_
    refine cd_block ?_
    refine cd_region ?_
    refine st (ev_move rfl) rfl rfl rfl ?_
    refine st_bsi (h := 21) (xs := [_]) Try.underlying22 ty5 (by decide) rfl rfl (by decide) rfl rfl (fun b21 => ?_)
    refine st_appendi (h := 11) Try.underlying22 Try.underlying22 ty5 rfl rfl rfl rfl (fun w1 sw => sw.own_rd (h := 21) rfl) (by first | omega | (simp only [List.length_append, List.length_cons, List.length_nil, List.length_set, List.length_replicate, List.length_take, List.length_drop, ints_length, wr_length, comp_len, absorb_len, S0_len] <;> omega)) (by decide) rfl rfl (fun v22 => ?_)
    refine st (ev_assign rfl) rfl rfl rfl ?_
    refine op_nil ?_
    refine ax_block ?_
    refine ax_heq (i := 11) (v' := .own (v22) 5 1 (ints .u8 (b ++ [128] ++ List.replicate (x.1 + 1) 0))) rfl (by rw [List.append_assoc, ← List.replicate_succ']) ?_
    exact at_again ((x.1 + 1, v22)) (by simp only [List.length_append, List.length_replicate, List.length_cons, List.length_nil] at hc19; show x.1 + 1 ≤ _; omega) (by omega) (.cons rfl (.cons rfl (.cons rfl (.nil _)))) (.cons rfl (.cons rfl (.nil _))) (.cons rfl (.nil _))
  ·
    obtain ⟨z, v⟩ := x
    simp only [List.length_append, List.length_replicate, List.length_cons, List.length_nil] at hi hc19
    obtain rfl : z = zs b.length := by omega
    dsimp only
    refine cd_exit ?_
    refine ax_then_exit ?_
    refine ax_then_exit ?_
    refine ax_block_hit ?_
    refine ax_then ?_
    refine At.regs (L' := [(0, _), (2, _), (3, _)]) (.cons rfl (.cons rfl (.cons rfl (.nil _)))) ?_
    refine cd_seq ?_
    refine cd_region ?_
    refine st (ev_move rfl) rfl rfl rfl ?_
    refine st (ev_len_rdi (h := 0) Try.underlying22 rfl rfl) rfl rfl rfl ?_
    refine st (ev_convu64 Try.underlying3 Try.underlying121 rfl (by omega) (by omega)) rfl rfl rfl ?_
    refine st (ev_mul rfl rfl) rfl rfl rfl ?_
    refine at_eq (i := 26) (v' := .int .u64 (8 * (b.length : Int))) rfl (by rw [mul8 _ hl]) ?_
    refine st (ev_assign rfl) rfl rfl rfl ?_
    refine op_nil ?_
    refine ax_then ?_
    refine At.regs (L' := [(2, _), (3, _), (4, _)]) (.cons rfl (.cons rfl (.cons rfl (.nil _)))) ?_
    refine cd_seq ?_
    refine cd_seq ?_
    refine cd_region ?_
    refine st (ev_assign rfl) rfl rfl rfl ?_
    refine op_nil ?_
    refine ax_then ?_
    refine At.regs (L' := [(2, _), (3, _), (4, _), (5, _)]) (.cons rfl (.cons rfl (.cons rfl (.cons rfl (.nil _))))) ?_
    refine cd_block ?_
    refine at_heq (i := 11) (v' := .own (v) 5 1 (ints .u8 (b ++ [128] ++ List.replicate (zs b.length) 0 ++ bes (8 * (b.length : Int)) 0))) rfl (by simp [bes]) ?_
    refine at_eq (i := 5) (v' := .int .i64 (7 - ((0 : Nat) : Int))) rfl rfl ?_
    refine cd_loop (ι := Nat × Value) (fun x => x.1 ≤ 8) (fun x => 8 - x.1)
        (fun x => [(2, .pointer (some ⟨b2, 0, none⟩)), (3, x.2), (4, .int .u64 (8 * (b.length : Int))), (5, .int .i64 (7 - (x.1 : Int)))])
        (fun x => [(2, .blk b2 (.cells (ints .u8 (List.replicate 32 0)).toArray 39)), (11, .own (x.2) 5 1 (ints .u8 (b ++ [128] ++ List.replicate (zs b.length) 0 ++ bes (8 * (b.length : Int)) x.1)))])
        (fun x => [])
        (0, v) (by omega) (.cons rfl (.cons rfl (.cons rfl (.cons rfl (.nil _))))) (.cons rfl (.cons rfl (.nil _))) (.nil _) (fun x hi => ?_)
    have hbe := bes_len (8 * (b.length : Int)) x.1
    refine cd_seq ?_
    refine cd_seq ?_
    refine cd_region ?_
    refine st (ev_move rfl) rfl rfl rfl ?_
    refine st (ev_geq rfl rfl) rfl rfl rfl ?_
    refine op_nil ?_
    refine ax_then ?_
    refine At.regs (L' := [(2, _), (3, _), (4, _), (5, _), (27, _), (28, _)]) (.cons rfl (.cons rfl (.cons rfl (.cons rfl (.cons rfl (.cons rfl (.nil _))))))) ?_
    refine cd_if rfl (fun hc28 => ?_) (fun hc28 => ?_)
    ·
      refine cd_skip ?_
      refine ax_then ?_
      refine At.regs (L' := [(2, _), (3, _), (4, _), (5, _), (27, _), (28, _)]) (.cons rfl (.cons rfl (.cons rfl (.cons rfl (.cons rfl (.cons rfl (.nil _))))))) ?_
      refine cd_seq ?_
      refine cd_block ?_
      refine cd_region ?_
      refine st (ev_move rfl) rfl rfl rfl ?_
      refine st (ev_move rfl) rfl rfl rfl ?_
      refine st (ev_move rfl) rfl rfl rfl ?_
      refine st (ev_mul64 rfl rfl (by omega) (by omega)) rfl rfl rfl ?_
      refine st (ev_convu64 Try.underlying3 Try.underlying37 rfl (by omega) (by omega)) rfl rfl rfl ?_
      refine st (ev_shr rfl rfl (by omega)) rfl rfl rfl ?_
      refine st (ev_conv Try.underlying121 Try.underlying5 rfl) rfl rfl rfl ?_
      refine st_bsi (h := 38) (xs := [_]) Try.underlying22 ty5 (by decide) rfl rfl (by decide) rfl rfl (fun b38 => ?_)
      refine st_appendi (h := 11) Try.underlying22 Try.underlying22 ty5 rfl rfl rfl rfl (fun w1 sw => sw.own_rd (h := 38) rfl) (by first | omega | (simp only [List.length_append, List.length_cons, List.length_nil, List.length_set, List.length_replicate, List.length_take, List.length_drop, ints_length, wr_length, comp_len, absorb_len, S0_len] <;> omega)) (by decide) rfl rfl (fun v39 => ?_)
      refine st (ev_assign rfl) rfl rfl rfl ?_
      refine op_nil ?_
      refine ax_block ?_
      refine ax_then ?_
      refine At.regs (L' := [(2, _), (3, _), (4, _), (5, _), (27, _), (28, _), (31, _), (32, _), (33, _), (34, _), (35, _), (36, _), (37, _), (38, _), (39, _)]) (.cons rfl (.cons rfl (.cons rfl (.cons rfl (.cons rfl (.cons rfl (.cons rfl (.cons rfl (.cons rfl (.cons rfl (.cons rfl (.cons rfl (.cons rfl (.cons rfl (.cons rfl (.nil _)))))))))))))))) ?_
      refine cd_region ?_
      refine st (ev_move rfl) rfl rfl rfl ?_
      refine st (ev_sub64 rfl rfl (by omega) (by omega)) rfl rfl rfl ?_
      refine st (ev_assign rfl) rfl rfl rfl ?_
      refine op_nil ?_
      have e0 : 8 * (7 - (x.1 : Int)) = 8 * ((7 - x.1 : Nat) : Int) := by omega
      refine ax_heq (i := 11) (v' := .own (v39) 5 1 (ints .u8 (b ++ [128] ++ List.replicate (zs b.length) 0 ++ bes (8 * (b.length : Int)) (x.1 + 1)))) rfl (by simp only [e0, List.append_assoc]; rfl) ?_
      refine ax_eq (i := 5) (v' := .int .i64 (7 - ((x.1 + 1 : Nat) : Int))) rfl (by congr 1; omega) ?_
      exact at_again ((x.1 + 1, v39)) (by show x.1 + 1 ≤ 8; omega) (by omega) (.cons rfl (.cons rfl (.cons rfl (.cons rfl (.nil _))))) (.cons rfl (.cons rfl (.nil _))) (.nil _)
    ·
      obtain ⟨j, v⟩ := x
      dsimp only at hi hc28 ⊢
      obtain rfl : j = 8 := by omega
      have hpl := pad_len b
      have hpd := pad_len64 b
      have hzs : zs b.length < 64 := by unfold zs; omega
      refine at_heq (i := 11) (v' := .own (v) 5 1 (ints .u8 (pad b))) rfl rfl ?_
      refine cd_exit ?_
      refine ax_then_exit ?_
      refine ax_then_exit ?_
      refine ax_block_hit ?_
      refine ax_then ?_
      refine At.regs (L' := [(2, _), (3, _)]) (.cons rfl (.cons rfl (.nil _))) ?_
      refine cd_seq ?_
      refine cd_region ?_
      refine st (ev_build_ints (xs := [_, _, _, _, _, _, _, _]) (zs := List.replicate 8 0) ty127 rfl ty126 rfl rfl rfl rfl rfl) rfl rfl rfl ?_
      refine st_alloc (h := 6) ty127 rfl rfl rfl (fun b6 => ?_)
      refine st_store_all 6 ty127 rfl rfl rfl rfl (by first | omega | (simp only [List.length_append, List.length_cons, List.length_nil, List.length_set, List.length_replicate, List.length_take, List.length_drop, ints_length, wr_length, comp_len, absorb_len, S0_len] <;> omega) | rfl) (ints_one _ _) (by first | omega | (simp only [List.length_append, List.length_cons, List.length_nil, List.length_set, List.length_replicate, List.length_take, List.length_drop, ints_length, wr_length, comp_len, absorb_len, S0_len] <;> omega) | rfl) rfl ?_
      refine op_nil ?_
      refine ax_then ?_
      refine At.regs (L' := [(2, _), (3, _), (6, _)]) (.cons rfl (.cons rfl (.cons rfl (.nil _)))) ?_
      refine cd_seq ?_
      refine cd_region ?_
      refine st_callv has98 rfl (fun w1 sw => rk_any w1) rfl rfl ?_
      refine st_alloc (h := 7) ty128 rfl rfl rfl (fun b7 => ?_)
      refine st_store_all 7 ty128 rfl rfl rfl rfl (by first | omega | (simp only [List.length_append, List.length_cons, List.length_nil, List.length_set, List.length_replicate, List.length_take, List.length_drop, ints_length, wr_length, comp_len, absorb_len, S0_len] <;> omega) | rfl) (ints_one _ _) (by first | omega | (simp only [List.length_append, List.length_cons, List.length_nil, List.length_set, List.length_replicate, List.length_take, List.length_drop, ints_length, wr_length, comp_len, absorb_len, S0_len] <;> omega) | rfl) rfl ?_
      refine op_nil ?_
      refine ax_then ?_
      refine At.regs (L' := [(2, _), (3, _), (6, _), (7, _)]) (.cons rfl (.cons rfl (.cons rfl (.cons rfl (.nil _))))) ?_
      refine cd_seq ?_
      refine cd_seq ?_
      refine cd_region ?_
      refine st (ev_assign rfl) rfl rfl rfl ?_
      refine op_nil ?_
      refine ax_then ?_
      refine At.regs (L' := [(2, _), (3, _), (6, _), (7, _), (8, _)]) (.cons rfl (.cons rfl (.cons rfl (.cons rfl (.cons rfl (.nil _)))))) ?_
      refine cd_block ?_
      refine cd_loop (ι := Nat) (fun m => 64 * m ≤ (pad b).length) (fun m => (pad b).length - m)
          (fun m => [(2, .pointer (some ⟨b2, 0, none⟩)), (3, v), (6, .pointer (some ⟨b6, 0, none⟩)), (7, .pointer (some ⟨b7, 0, none⟩)), (8, .int .i64 (64 * (m : Int)))])
          (fun m => [(2, .blk b2 (.cells (ints .u8 (List.replicate 32 0)).toArray 39)), (6, .blk b6 (.cells (ints .u32 (absorb S0 (pad b) m)).toArray 127)), (7, .blk b7 (.cells (ints .u32 (K)).toArray 128)), (11, .own (v) 5 1 (ints .u8 (pad b)))])
          (fun m => [])
          0 (by omega) (.cons rfl (.cons rfl (.cons rfl (.cons rfl (.cons rfl (.nil _)))))) (.cons rfl (.cons rfl (.cons rfl (.cons rfl (.nil _))))) (.nil _) (fun m hi => ?_)
      have hal : (absorb S0 (pad b) m).length = 8 := by rw [absorb_len]; rfl
      refine cd_seq ?_
      refine cd_seq ?_
      refine cd_region ?_
      refine st (ev_move rfl) rfl rfl rfl ?_
      refine st (ev_move rfl) rfl rfl rfl ?_
      refine st (ev_len_owni (h := 11) Try.underlying22 rfl rfl) rfl rfl rfl ?_
      refine st (ev_lss rfl rfl) rfl rfl rfl ?_
      refine op_nil ?_
      refine ax_then ?_
      refine At.regs (L' := [(2, _), (3, _), (6, _), (7, _), (8, _), (42, _), (43, _), (44, _), (45, _)]) (.cons rfl (.cons rfl (.cons rfl (.cons rfl (.cons rfl (.cons rfl (.cons rfl (.cons rfl (.cons rfl (.nil _)))))))))) ?_
      refine cd_if rfl (fun hc45 => ?_) (fun hc45 => ?_)
      ·
        refine cd_skip ?_
        refine ax_then ?_
        refine At.regs (L' := [(2, _), (3, _), (6, _), (7, _), (8, _), (42, _), (43, _), (44, _), (45, _)]) (.cons rfl (.cons rfl (.cons rfl (.cons rfl (.cons rfl (.cons rfl (.cons rfl (.cons rfl (.cons rfl (.nil _)))))))))) ?_
        refine cd_seq ?_
        refine cd_block ?_
        refine cd_open_tail 7 hmix (by decide +kernel) ?_
        refine qt (ld_blk_all (h := 6) ty127 rfl rfl rfl (by first | omega | (simp only [List.length_append, List.length_cons, List.length_nil, List.length_set, List.length_replicate, List.length_take, List.length_drop, ints_length, wr_length, comp_len, absorb_len, S0_len] <;> omega) | rfl)) rfl rfl rfl ?_
        refine qt (ev_move rfl) rfl rfl rfl ?_
        refine qt (ev_move rfl) rfl rfl rfl ?_
        refine qt (ev_move rfl) rfl rfl rfl ?_
        refine qt (ev_add64 rfl rfl (by omega) (by omega)) rfl rfl rfl ?_
        refine qt (ev_slicei Try.underlying22 ty5 rfl rfl rfl (fun w1 sw => sw.own_rd (h := 11) rfl) (by omega) (by omega) (by first | omega | (simp only [List.length_append, List.length_cons, List.length_nil, List.length_set, List.length_replicate, List.length_take, List.length_drop, ints_length, wr_length, comp_len, absorb_len, S0_len] <;> omega))) rfl rfl rfl ?_
        refine qt_callv has99 rfl (fun w1 sw => block_any b7 _ _ _ K w1 hal rfl (by simp only [List.length_take, List.length_drop]; omega) ((sw.own_rd (h := 11) rfl).cuti (by omega) (by omega)) (lies_blk (sw.blk_eq (h := 7) rfl))) rfl rfl ?_
        refine qt_end ?_
        refine st_store_all 6 ty127 rfl rfl rfl rfl (by first | omega | (simp only [List.length_append, List.length_cons, List.length_nil, List.length_set, List.length_replicate, List.length_take, List.length_drop, ints_length, wr_length, comp_len, absorb_len, S0_len] <;> omega) | rfl) (ints_one _ _) (by first | omega | (simp only [List.length_append, List.length_cons, List.length_nil, List.length_set, List.length_replicate, List.length_take, List.length_drop, ints_length, wr_length, comp_len, absorb_len, S0_len] <;> omega) | rfl) rfl ?_
        refine op_nil ?_
        refine ax_block ?_
        refine ax_then ?_
        refine At.regs (L' := [(2, _), (3, _), (6, _), (7, _), (8, _), (42, _), (43, _), (44, _), (45, _), (48, _), (49, _), (50, _), (51, _), (52, _), (53, _), (54, _)]) (.cons rfl (.cons rfl (.cons rfl (.cons rfl (.cons rfl (.cons rfl (.cons rfl (.cons rfl (.cons rfl (.cons rfl (.cons rfl (.cons rfl (.cons rfl (.cons rfl (.cons rfl (.cons rfl (.nil _))))))))))))))))) ?_
        refine cd_region ?_
        refine st (ev_move rfl) rfl rfl rfl ?_
        refine st (ev_add64 rfl rfl (by omega) (by omega)) rfl rfl rfl ?_
        refine st (ev_assign rfl) rfl rfl rfl ?_
        refine op_nil ?_
        have e0 : (64 * (m : Int)).toNat = 64 * m := by omega
        refine ax_heq (i := 6) (v' := .blk b6 (.cells (ints .u32 (absorb S0 (pad b) (m + 1))).toArray 127)) rfl (by simp only [e0]; rw [comp_take _ _ _ _ (by omega)]; rfl) ?_
        exact at_again (m + 1) (by omega) (by omega) (.cons rfl (.cons rfl (.cons rfl (.cons rfl (.cons rfl (.nil _)))))) (.cons rfl (.cons rfl (.cons rfl (.cons rfl (.nil _))))) (.nil _)
      ·
        obtain rfl : m = (pad b).length / 64 := by omega
        refine cd_exit ?_
        refine ax_then_exit ?_
        refine ax_then_exit ?_
        refine ax_block_hit ?_
        refine ax_then ?_
        refine At.regs (L' := [(2, _), (6, _)]) (.cons rfl (.cons rfl (.nil _))) ?_
        refine cd_seq ?_
        refine at_heq (i := 6) (v' := .blk b6 (.cells (ints .u32 (fs b)).toArray 127)) rfl rfl ?_
        refine cd_region ?_
        refine st_alloc (h := 9) ty39 rfl rfl rfl (fun b9 => ?_)
        refine op_nil ?_
        refine ax_then ?_
        refine At.regs (L' := [(2, _), (6, _), (9, _)]) (.cons rfl (.cons rfl (.cons rfl (.nil _)))) ?_
        refine cd_seq ?_
        refine cd_seq ?_
        refine cd_region ?_
        refine st (ev_assign rfl) rfl rfl rfl ?_
        refine op_nil ?_
        refine ax_then ?_
        refine At.regs (L' := [(2, _), (6, _), (9, _), (10, _)]) (.cons rfl (.cons rfl (.cons rfl (.cons rfl (.nil _))))) ?_
        refine cd_block ?_
        refine cd_loop (ι := Nat) (fun i => i ≤ 32) (fun i => 32 - i)
            (fun i => [(2, .pointer (some ⟨b2, 0, none⟩)), (6, .pointer (some ⟨b6, 0, none⟩)), (9, .pointer (some ⟨b9, 0, none⟩)), (10, .int .i64 (i : Int))])
            (fun i => [(2, .blk b2 (.cells (ints .u8 (List.replicate 32 0)).toArray 39)), (6, .blk b6 (.cells (ints .u32 (fs b)).toArray 127)), (9, .blk b9 (.cells (ints .u8 (outr (fs b) i)).toArray 39))])
            (fun i => [])
            0 (by omega) (.cons rfl (.cons rfl (.cons rfl (.cons rfl (.nil _))))) (.cons rfl (.cons rfl (.cons rfl (.nil _)))) (.nil _) (fun i hi => ?_)
        have hfl := fs_len b
        have hol := outr_len (fs b) i
        refine cd_seq ?_
        refine cd_seq ?_
        refine cd_region ?_
        refine st (ev_move rfl) rfl rfl rfl ?_
        refine st (ev_lss rfl rfl) rfl rfl rfl ?_
        refine op_nil ?_
        refine ax_then ?_
        refine At.regs (L' := [(2, _), (6, _), (9, _), (10, _), (55, _), (56, _)]) (.cons rfl (.cons rfl (.cons rfl (.cons rfl (.cons rfl (.cons rfl (.nil _))))))) ?_
        refine cd_if rfl (fun hc56 => ?_) (fun hc56 => ?_)
        ·
          refine cd_skip ?_
          refine ax_then ?_
          refine At.regs (L' := [(2, _), (6, _), (9, _), (10, _), (55, _), (56, _)]) (.cons rfl (.cons rfl (.cons rfl (.cons rfl (.cons rfl (.cons rfl (.nil _))))))) ?_
          refine cd_seq ?_
          refine cd_block ?_
          refine cd_region ?_
          refine st (ev_move rfl) rfl rfl rfl ?_
          refine st (ev_move rfl) rfl rfl rfl ?_
          refine st (ev_quo64 rfl rfl (by omega) (by omega) (by omega)) rfl rfl rfl ?_
          refine st (ev_indexAddr_arr Try.underlying127 ty126 rfl rfl (by omega) (by omega)) rfl rfl rfl ?_
          refine st (ld_blk1 (h := 6) ty126 rfl rfl rfl (ints_get _ _ _ (by first | omega | (simp only [List.length_append, List.length_cons, List.length_nil, List.length_set, List.length_replicate, List.length_take, List.length_drop, ints_length, wr_length, comp_len, absorb_len, S0_len] <;> omega) | rfl))) rfl rfl rfl ?_
          refine st (ev_move rfl) rfl rfl rfl ?_
          refine st (ev_rem64 rfl rfl (by omega) (by omega)) rfl rfl rfl ?_
          refine st (ev_mul64 rfl rfl (by omega) (by omega)) rfl rfl rfl ?_
          refine st (ev_sub64 rfl rfl (by omega) (by omega)) rfl rfl rfl ?_
          refine st (ev_convu64 Try.underlying3 Try.underlying37 rfl (by omega) (by omega)) rfl rfl rfl ?_
          refine st (ev_shr rfl rfl (by omega)) rfl rfl rfl ?_
          refine st (ev_conv Try.underlying126 Try.underlying5 rfl) rfl rfl rfl ?_
          refine st (ev_indexAddr_arr Try.underlying39 ty5 rfl rfl (by omega) (by omega)) rfl rfl rfl ?_
          refine st_store1 9 ty5 rfl rfl rfl rfl (by first | omega | (simp only [List.length_append, List.length_cons, List.length_nil, List.length_set, List.length_replicate, List.length_take, List.length_drop, ints_length, wr_length, comp_len, absorb_len, S0_len] <;> omega) | rfl) rfl ?_
          refine at_heq (i := 9) rfl (by rw [ints_set]) ?_
          refine op_nil ?_
          refine ax_block ?_
          refine ax_then ?_
          refine At.regs (L' := [(2, _), (6, _), (9, _), (10, _), (55, _), (56, _), (59, _), (60, _), (61, _), (62, _), (63, _), (64, _), (65, _), (66, _), (67, _), (68, _), (69, _), (70, _), (71, _)]) (.cons rfl (.cons rfl (.cons rfl (.cons rfl (.cons rfl (.cons rfl (.cons rfl (.cons rfl (.cons rfl (.cons rfl (.cons rfl (.cons rfl (.cons rfl (.cons rfl (.cons rfl (.cons rfl (.cons rfl (.cons rfl (.cons rfl (.nil _)))))))))))))))))))) ?_
          refine cd_region ?_
          refine st (ev_move rfl) rfl rfl rfl ?_
          refine st (ev_add64 rfl rfl (by omega) (by omega)) rfl rfl rfl ?_
          refine st (ev_assign rfl) rfl rfl rfl ?_
          refine op_nil ?_
          have e0 : 0 + (i : Int).toNat * 1 = i := by omega
          have e1 : 0 + ((i : Int) / 4).toNat * 1 = i / 4 := by omega
          have e2 : (i : Int) % 4 = ((i % 4 : Nat) : Int) := by omega
          refine ax_heq (i := 9) (v' := .blk b9 (.cells (ints .u8 (outr (fs b) (i + 1))).toArray 39)) rfl (by simp only [e0, e1, e2]; rfl) ?_
          exact at_again (i + 1) (by omega) (by omega) (.cons rfl (.cons rfl (.cons rfl (.cons rfl (.nil _))))) (.cons rfl (.cons rfl (.cons rfl (.nil _)))) (.nil _)
        ·
          obtain rfl : i = 32 := by omega
          refine cd_exit ?_
          refine ax_then_exit ?_
          refine ax_then_exit ?_
          refine ax_block_hit ?_
          refine ax_then ?_
          refine At.regs (L' := [(2, _), (9, _)]) (.cons rfl (.cons rfl (.nil _))) ?_
          refine cd_seq ?_
          refine at_heq (i := 9) (v' := .blk b9 (.cells (ints .u8 (sha b)).toArray 39)) rfl (by rw [outr_eq]; rfl) ?_
          have hsl := sha_len b
          refine cd_region ?_
          refine st (ld_blk_all (h := 9) ty39 rfl rfl rfl (by first | omega | (simp only [List.length_append, List.length_cons, List.length_nil, List.length_set, List.length_replicate, List.length_take, List.length_drop, ints_length, wr_length, comp_len, absorb_len, S0_len] <;> omega) | rfl)) rfl rfl rfl ?_
          refine st_store_all 2 ty39 rfl rfl rfl rfl (by first | omega | (simp only [List.length_append, List.length_cons, List.length_nil, List.length_set, List.length_replicate, List.length_take, List.length_drop, ints_length, wr_length, comp_len, absorb_len, S0_len] <;> omega) | rfl) (ints_one _ _) (by first | omega | (simp only [List.length_append, List.length_cons, List.length_nil, List.length_set, List.length_replicate, List.length_take, List.length_drop, ints_length, wr_length, comp_len, absorb_len, S0_len] <;> omega) | rfl) rfl ?_
          refine op_nil ?_
          refine ax_then ?_
          refine At.regs (L' := [(2, _)]) (.cons rfl (.nil _)) ?_
          refine cd_ret ?_
          refine rt_cell (h0 := 2) (.inl rfl) Try.results80 ty39 rfl rfl rfl (by first | omega | (simp only [List.length_append, List.length_cons, List.length_nil, List.length_set, List.length_replicate, List.length_take, List.length_drop, ints_length, wr_length, comp_len, absorb_len, S0_len] <;> omega) | rfl) ?_
          exact fun w1 sw => ⟨rfl, sw.gives (.nil _)⟩
end Go.Proofs.Yteedclmcgifmpaa
