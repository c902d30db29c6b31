/- Walks: the rounds' parts. -/
import Derived.Test.YteedclmcgifmpaaShaA
import Derived.Test.YteedclmcgifmpaaTy
namespace Go.Proofs.Yteedclmcgifmpaa
open Go Go.RowKit Fw
open Sha
set_option linter.unusedVariables false
set_option linter.unusedSimpArgs false

set_option maxRecDepth 20000 in
set_option maxHeartbeats 1000000 in
theorem turn_any (x n : Int) (w : World) (h0 : 0 ≤ n) (h1 : n ≤ 32) : Calls Try.prog 112 #[.int .u32 x, .int .u64 n] w (PostV w (.int .u32 (turn x n))) := by
  refine calls_at (vs := [.int .u32 x, .int .u64 n]) (X := []) (H := []) (F := []) 13 Try.func112 rfl rfl rfl (Sat.start0 w) ?_
  refine cd_seq ?_
  refine cd_region ?_
  refine st (ev_assign rfl) rfl rfl rfl ?_
  refine op_nil ?_
  refine ax_then ?_
  refine At.regs (L' := [(0, _), (1, _), (4, _)]) (.cons rfl (.cons rfl (.cons rfl (.nil _)))) ?_
  refine cd_seq ?_
  refine cd_region ?_
  refine st (ev_move rfl) rfl rfl rfl ?_
  refine st (ev_move rfl) rfl rfl rfl ?_
  refine st (ev_shr rfl rfl (by omega)) rfl rfl rfl ?_
  refine st (ev_move rfl) rfl rfl rfl ?_
  refine st (ev_move rfl) rfl rfl rfl ?_
  refine st (ev_subu64 rfl rfl (by omega) (by omega)) rfl rfl rfl ?_
  refine st (ev_shl rfl rfl (by omega)) rfl rfl rfl ?_
  refine st (ev_or rfl rfl) rfl rfl rfl ?_
  refine st (ev_assign rfl) rfl rfl rfl ?_
  refine op_nil ?_
  refine ax_then ?_
  refine At.regs (L' := [(4, _)]) (.cons rfl (.nil _)) ?_
  refine cd_ret ?_
  refine rt_tmp (.inl rfl) Try.results112 rfl ?_
  exact fun w1 sw => ⟨rfl, sw.gives (.nil _)⟩

set_option maxRecDepth 20000 in
set_option maxHeartbeats 1000000 in
theorem r_any (x n : Int) (w : World) (h0 : 0 ≤ n) (h1 : n ≤ 32) : Calls Try.prog 103 #[.int .u32 x, .int .u64 n] w (PostV w (.int .u32 (turn x n))) := by
  refine calls_at (vs := [.int .u32 x, .int .u64 n]) (X := []) (H := []) (F := []) 13 Try.func103 rfl rfl rfl (Sat.start0 w) ?_
  refine cd_seq ?_
  refine cd_region ?_
  refine st (ev_assign rfl) rfl rfl rfl ?_
  refine op_nil ?_
  refine ax_then ?_
  refine At.regs (L' := [(0, _), (1, _), (4, _)]) (.cons rfl (.cons rfl (.cons rfl (.nil _)))) ?_
  refine cd_seq ?_
  refine cd_region ?_
  refine st (ev_move rfl) rfl rfl rfl ?_
  refine st (ev_move rfl) rfl rfl rfl ?_
  refine st (ev_shr rfl rfl (by omega)) rfl rfl rfl ?_
  refine st (ev_move rfl) rfl rfl rfl ?_
  refine st (ev_move rfl) rfl rfl rfl ?_
  refine st (ev_subu64 rfl rfl (by omega) (by omega)) rfl rfl rfl ?_
  refine st (ev_shl rfl rfl (by omega)) rfl rfl rfl ?_
  refine st (ev_or rfl rfl) rfl rfl rfl ?_
  refine st (ev_assign rfl) rfl rfl rfl ?_
  refine op_nil ?_
  refine ax_then ?_
  refine At.regs (L' := [(4, _)]) (.cons rfl (.nil _)) ?_
  refine cd_ret ?_
  refine rt_tmp (.inl rfl) Try.results103 rfl ?_
  exact fun w1 sw => ⟨rfl, sw.gives (.nil _)⟩

set_option maxRecDepth 20000 in
set_option maxHeartbeats 1000000 in
theorem s0_any (x : Int) (w : World) : Calls Try.prog 104 #[.int .u32 x] w (PostV w (.int .u32 (s0 x))) := by
  refine calls_at (vs := [.int .u32 x]) (X := []) (H := []) (F := []) 11 Try.func104 rfl rfl rfl (Sat.start0 w) ?_
  refine cd_seq ?_
  refine cd_region ?_
  refine st (ev_assign rfl) rfl rfl rfl ?_
  refine op_nil ?_
  refine ax_then ?_
  refine At.regs (L' := [(0, _), (2, _)]) (.cons rfl (.cons rfl (.nil _))) ?_
  refine cd_seq ?_
  refine cd_region ?_
  refine st (ev_move rfl) rfl rfl rfl ?_
  refine st_callv has112 rfl (fun w1 sw => turn_any _ _ w1 (by omega) (by omega)) rfl rfl ?_
  refine st (ev_move rfl) rfl rfl rfl ?_
  refine st_callv has112 rfl (fun w1 sw => turn_any _ _ w1 (by omega) (by omega)) rfl rfl ?_
  refine st (ev_xor rfl rfl) rfl rfl rfl ?_
  refine st (ev_move rfl) rfl rfl rfl ?_
  refine st (ev_shr rfl rfl (by omega)) rfl rfl rfl ?_
  refine st (ev_xor rfl rfl) rfl rfl rfl ?_
  refine st (ev_assign rfl) rfl rfl rfl ?_
  refine op_nil ?_
  refine ax_then ?_
  refine At.regs (L' := [(2, _)]) (.cons rfl (.nil _)) ?_
  refine cd_ret ?_
  refine rt_tmp (.inl rfl) Try.results104 rfl ?_
  exact fun w1 sw => ⟨rfl, sw.gives (.nil _)⟩

set_option maxRecDepth 20000 in
set_option maxHeartbeats 1000000 in
theorem s1_any (x : Int) (w : World) : Calls Try.prog 105 #[.int .u32 x] w (PostV w (.int .u32 (s1 x))) := by
  refine calls_at (vs := [.int .u32 x]) (X := []) (H := []) (F := []) 11 Try.func105 rfl rfl rfl (Sat.start0 w) ?_
  refine cd_seq ?_
  refine cd_region ?_
  refine st (ev_assign rfl) rfl rfl rfl ?_
  refine op_nil ?_
  refine ax_then ?_
  refine At.regs (L' := [(0, _), (2, _)]) (.cons rfl (.cons rfl (.nil _))) ?_
  refine cd_seq ?_
  refine cd_region ?_
  refine st (ev_move rfl) rfl rfl rfl ?_
  refine st_callv has112 rfl (fun w1 sw => turn_any _ _ w1 (by omega) (by omega)) rfl rfl ?_
  refine st (ev_move rfl) rfl rfl rfl ?_
  refine st_callv has112 rfl (fun w1 sw => turn_any _ _ w1 (by omega) (by omega)) rfl rfl ?_
  refine st (ev_xor rfl rfl) rfl rfl rfl ?_
  refine st (ev_move rfl) rfl rfl rfl ?_
  refine st (ev_shr rfl rfl (by omega)) rfl rfl rfl ?_
  refine st (ev_xor rfl rfl) rfl rfl rfl ?_
  refine st (ev_assign rfl) rfl rfl rfl ?_
  refine op_nil ?_
  refine ax_then ?_
  refine At.regs (L' := [(2, _)]) (.cons rfl (.nil _)) ?_
  refine cd_ret ?_
  refine rt_tmp (.inl rfl) Try.results105 rfl ?_
  exact fun w1 sw => ⟨rfl, sw.gives (.nil _)⟩

set_option maxRecDepth 20000 in
set_option maxHeartbeats 1000000 in
theorem b0_any (x : Int) (w : World) : Calls Try.prog 108 #[.int .u32 x] w (PostV w (.int .u32 (b0 x))) := by
  refine calls_at (vs := [.int .u32 x]) (X := []) (H := []) (F := []) 11 Try.func108 rfl rfl rfl (Sat.start0 w) ?_
  refine cd_seq ?_
  refine cd_region ?_
  refine st (ev_assign rfl) rfl rfl rfl ?_
  refine op_nil ?_
  refine ax_then ?_
  refine At.regs (L' := [(0, _), (2, _)]) (.cons rfl (.cons rfl (.nil _))) ?_
  refine cd_seq ?_
  refine cd_region ?_
  refine st (ev_move rfl) rfl rfl rfl ?_
  refine st_callv has112 rfl (fun w1 sw => turn_any _ _ w1 (by omega) (by omega)) rfl rfl ?_
  refine st (ev_move rfl) rfl rfl rfl ?_
  refine st_callv has112 rfl (fun w1 sw => turn_any _ _ w1 (by omega) (by omega)) rfl rfl ?_
  refine st (ev_xor rfl rfl) rfl rfl rfl ?_
  refine st (ev_move rfl) rfl rfl rfl ?_
  refine st_callv has112 rfl (fun w1 sw => turn_any _ _ w1 (by omega) (by omega)) rfl rfl ?_
  refine st (ev_xor rfl rfl) rfl rfl rfl ?_
  refine st (ev_assign rfl) rfl rfl rfl ?_
  refine op_nil ?_
  refine ax_then ?_
  refine At.regs (L' := [(2, _)]) (.cons rfl (.nil _)) ?_
  refine cd_ret ?_
  refine rt_tmp (.inl rfl) Try.results108 rfl ?_
  exact fun w1 sw => ⟨rfl, sw.gives (.nil _)⟩

set_option maxRecDepth 20000 in
set_option maxHeartbeats 1000000 in
theorem b1_any (x : Int) (w : World) : Calls Try.prog 106 #[.int .u32 x] w (PostV w (.int .u32 (b1 x))) := by
  refine calls_at (vs := [.int .u32 x]) (X := []) (H := []) (F := []) 11 Try.func106 rfl rfl rfl (Sat.start0 w) ?_
  refine cd_seq ?_
  refine cd_region ?_
  refine st (ev_assign rfl) rfl rfl rfl ?_
  refine op_nil ?_
  refine ax_then ?_
  refine At.regs (L' := [(0, _), (2, _)]) (.cons rfl (.cons rfl (.nil _))) ?_
  refine cd_seq ?_
  refine cd_region ?_
  refine st (ev_move rfl) rfl rfl rfl ?_
  refine st_callv has112 rfl (fun w1 sw => turn_any _ _ w1 (by omega) (by omega)) rfl rfl ?_
  refine st (ev_move rfl) rfl rfl rfl ?_
  refine st_callv has112 rfl (fun w1 sw => turn_any _ _ w1 (by omega) (by omega)) rfl rfl ?_
  refine st (ev_xor rfl rfl) rfl rfl rfl ?_
  refine st (ev_move rfl) rfl rfl rfl ?_
  refine st_callv has112 rfl (fun w1 sw => turn_any _ _ w1 (by omega) (by omega)) rfl rfl ?_
  refine st (ev_xor rfl rfl) rfl rfl rfl ?_
  refine st (ev_assign rfl) rfl rfl rfl ?_
  refine op_nil ?_
  refine ax_then ?_
  refine At.regs (L' := [(2, _)]) (.cons rfl (.nil _)) ?_
  refine cd_ret ?_
  refine rt_tmp (.inl rfl) Try.results106 rfl ?_
  exact fun w1 sw => ⟨rfl, sw.gives (.nil _)⟩

set_option maxRecDepth 20000 in
set_option maxHeartbeats 1000000 in
theorem ch_any (x y z : Int) (w : World) : Calls Try.prog 107 #[.int .u32 x, .int .u32 y, .int .u32 z] w (PostV w (.int .u32 (ch x y z))) := by
  refine calls_at (vs := [.int .u32 x, .int .u32 y, .int .u32 z]) (X := []) (H := []) (F := []) 15 Try.func107 rfl rfl rfl (Sat.start0 w) ?_
  refine cd_seq ?_
  refine cd_region ?_
  refine st (ev_assign rfl) rfl rfl rfl ?_
  refine op_nil ?_
  refine ax_then ?_
  refine At.regs (L' := [(0, _), (1, _), (2, _), (6, _)]) (.cons rfl (.cons rfl (.cons rfl (.cons rfl (.nil _))))) ?_
  refine cd_seq ?_
  refine cd_region ?_
  refine st (ev_move rfl) rfl rfl rfl ?_
  refine st (ev_move rfl) rfl rfl rfl ?_
  refine st (ev_and rfl rfl) rfl rfl rfl ?_
  refine st (ev_move rfl) rfl rfl rfl ?_
  refine st (ev_inot rfl) rfl rfl rfl ?_
  refine st (ev_move rfl) rfl rfl rfl ?_
  refine st (ev_and rfl rfl) rfl rfl rfl ?_
  refine st (ev_xor rfl rfl) rfl rfl rfl ?_
  refine st (ev_assign rfl) rfl rfl rfl ?_
  refine op_nil ?_
  refine ax_then ?_
  refine At.regs (L' := [(6, _)]) (.cons rfl (.nil _)) ?_
  refine cd_ret ?_
  refine rt_tmp (.inl rfl) Try.results107 rfl ?_
  exact fun w1 sw => ⟨rfl, sw.gives (.nil _)⟩

set_option maxRecDepth 20000 in
set_option maxHeartbeats 1000000 in
theorem mj_any (x y z : Int) (w : World) : Calls Try.prog 109 #[.int .u32 x, .int .u32 y, .int .u32 z] w (PostV w (.int .u32 (mj x y z))) := by
  refine calls_at (vs := [.int .u32 x, .int .u32 y, .int .u32 z]) (X := []) (H := []) (F := []) 18 Try.func109 rfl rfl rfl (Sat.start0 w) ?_
  refine cd_seq ?_
  refine cd_region ?_
  refine st (ev_assign rfl) rfl rfl rfl ?_
  refine op_nil ?_
  refine ax_then ?_
  refine At.regs (L' := [(0, _), (1, _), (2, _), (6, _)]) (.cons rfl (.cons rfl (.cons rfl (.cons rfl (.nil _))))) ?_
  refine cd_seq ?_
  refine cd_region ?_
  refine st (ev_move rfl) rfl rfl rfl ?_
  refine st (ev_move rfl) rfl rfl rfl ?_
  refine st (ev_and rfl rfl) rfl rfl rfl ?_
  refine st (ev_move rfl) rfl rfl rfl ?_
  refine st (ev_move rfl) rfl rfl rfl ?_
  refine st (ev_and rfl rfl) rfl rfl rfl ?_
  refine st (ev_xor rfl rfl) rfl rfl rfl ?_
  refine st (ev_move rfl) rfl rfl rfl ?_
  refine st (ev_move rfl) rfl rfl rfl ?_
  refine st (ev_and rfl rfl) rfl rfl rfl ?_
  refine st (ev_xor rfl rfl) rfl rfl rfl ?_
  refine st (ev_assign rfl) rfl rfl rfl ?_
  refine op_nil ?_
  refine ax_then ?_
  refine At.regs (L' := [(6, _)]) (.cons rfl (.nil _)) ?_
  refine cd_ret ?_
  refine rt_tmp (.inl rfl) Try.results109 rfl ?_
  exact fun w1 sw => ⟨rfl, sw.gives (.nil _)⟩

set_option maxRecDepth 20000 in
set_option maxHeartbeats 4000000 in
theorem take_any (bs bk TS : Nat) (p : Value) (s b k : List Int) (w : World) (hs : s.length = 8) (hk : k.length = 64) (hb : 64 ≤ b.length) (h1 : w.heap[bs]? = some (.cells (ints .u32 s).toArray TS)) (h2 : Rd w p 1 (ints .u8 b)) (h3 : Lies w bk 0 (ints .u32 k)) (h4 : bs ∉ blkOf p) (h5 : bs ≠ bk) : Calls Try.prog 101 #[.pointer (some ⟨bs, 0, none⟩), p, .pointer (some ⟨bk, 0, none⟩)] w (Post (ι := Unit) w [bs] (fun _ => True) (fun _ => .tuple #[]) (fun _ => [(0, .blk bs (.cells (ints .u32 (comp k s b)).toArray TS))])) := by
  refine calls_at (vs := [.pointer (some ⟨bs, 0, none⟩), p, .pointer (some ⟨bk, 0, none⟩)]) (X := [bs]) (H := [(0, .blk bs (.cells (ints .u32 (s)).toArray TS))]) (F := [(1, .sl p 1 (ints .u8 b)), (2, .mem bk 0 (ints .u32 k))]) 157 Try.func101 rfl rfl rfl (((Sat.blk0 w 0 bs _ h1).read 2 (f := .mem bk 0 (ints .u32 k)) h3 (off_one fun b hb => .inr (by rw [mem_one hb]; exact h5))).read 1 (f := .sl p 1 (ints .u8 b)) h2 (off_one fun b hb => .inr (by rw [mem_one hb]; exact h4))) ?_
  refine cd_seq ?_
  refine cd_region ?_
  refine st_alloc (h := 6) ty128 rfl rfl rfl (fun b6 => ?_)
  refine op_nil ?_
  refine ax_then ?_
  refine At.regs (L' := [(0, _), (1, _), (2, _), (6, _)]) (.cons rfl (.cons rfl (.cons rfl (.cons rfl (.nil _))))) ?_
  refine cd_seq ?_
  refine cd_seq ?_
  refine cd_region ?_
  refine st (ev_move rfl) rfl rfl rfl ?_
  refine op_nil ?_
  refine ax_then ?_
  refine At.regs (L' := [(0, _), (1, _), (2, _), (6, _), (14, _)]) (.cons rfl (.cons rfl (.cons rfl (.cons rfl (.cons rfl (.nil _)))))) ?_
  refine cd_block ?_
  refine cd_loop (ι := Nat) (fun i => i ≤ 16) (fun i => 16 - i)
      (fun i => [(0, .pointer (some ⟨bs, 0, none⟩)), (1, p), (2, .pointer (some ⟨bk, 0, none⟩)), (6, .pointer (some ⟨b6, 0, none⟩)), (14, .int .i64 (i : Int))])
      (fun i => [(0, .blk bs (.cells (ints .u32 (s)).toArray TS)), (6, .blk b6 (.cells (ints .u32 (w1 b i)).toArray 128))])
      (fun i => [(1, .sl p 1 (ints .u8 b)), (2, .mem bk 0 (ints .u32 k))])
      0 (by omega) (.cons rfl (.cons rfl (.cons rfl (.cons rfl (.cons rfl (.nil _)))))) (.cons rfl (.cons rfl (.nil _))) (.cons rfl (.cons rfl (.nil _))) (fun i hi => ?_)
  have hw1 := w1_len b i
  refine cd_seq ?_
  refine cd_region ?_
  refine st (ev_lss rfl rfl) rfl rfl rfl ?_
  refine op_nil ?_
  refine ax_then ?_
  refine At.regs (L' := [(0, _), (1, _), (2, _), (6, _), (14, _), (15, _)]) (.cons rfl (.cons rfl (.cons rfl (.cons rfl (.cons rfl (.cons rfl (.nil _))))))) ?_
  refine cd_seq ?_
  refine cd_if rfl (fun hc15 => ?_) (fun hc15 => ?_)
  ·
    refine cd_skip ?_
    refine ax_then ?_
    refine At.regs (L' := [(0, _), (1, _), (2, _), (6, _), (14, _), (15, _)]) (.cons rfl (.cons rfl (.cons rfl (.cons rfl (.cons rfl (.cons rfl (.nil _))))))) ?_
    refine cd_seq ?_
    refine cd_block ?_
    refine cd_seq ?_
    refine cd_region ?_
    refine st (ev_move rfl) rfl rfl rfl ?_
    refine st (ev_assign rfl) rfl rfl rfl ?_
    refine op_nil ?_
    refine ax_then ?_
    refine At.regs (L' := [(0, _), (1, _), (2, _), (6, _), (7, _), (14, _), (15, _), (16, _)]) (.cons rfl (.cons rfl (.cons rfl (.cons rfl (.cons rfl (.cons rfl (.cons rfl (.cons rfl (.nil _))))))))) ?_
    refine cd_open_tail 34 hmix (by decide +kernel) ?_
    refine qt (ev_move rfl) rfl rfl rfl ?_
    refine qt (ev_move rfl) rfl rfl rfl ?_
    refine qt (ev_move rfl) rfl rfl rfl ?_
    refine qt (ev_mul64 rfl rfl (by omega) (by omega)) rfl rfl rfl ?_
    refine qt (ev_indexAddr_rdi (h := 1) Try.underlying22 ty5 rfl rfl rfl (by omega) (by first | omega | (simp only [List.length_append, List.length_cons, List.length_nil, List.length_set, List.length_replicate, List.length_take, List.length_drop, ints_length, wr_length] <;> omega))) rfl rfl rfl ?_
    refine qt (ld_rd1 (h := 1) ty5 rfl rfl rfl (ints_get _ _ _ (by first | omega | (simp only [List.length_append, List.length_cons, List.length_nil, List.length_set, List.length_replicate, List.length_take, List.length_drop, ints_length, wr_length] <;> omega) | rfl))) rfl rfl rfl ?_
    refine qt (ev_conv Try.underlying5 Try.underlying126 rfl) rfl rfl rfl ?_
    refine qt (ev_shl rfl rfl (by omega)) rfl rfl rfl ?_
    refine qt (ev_move rfl) rfl rfl rfl ?_
    refine qt (ev_move rfl) rfl rfl rfl ?_
    refine qt (ev_mul64 rfl rfl (by omega) (by omega)) rfl rfl rfl ?_
    refine qt (ev_add64 rfl rfl (by omega) (by omega)) rfl rfl rfl ?_
    refine qt (ev_indexAddr_rdi (h := 1) Try.underlying22 ty5 rfl rfl rfl (by omega) (by first | omega | (simp only [List.length_append, List.length_cons, List.length_nil, List.length_set, List.length_replicate, List.length_take, List.length_drop, ints_length, wr_length] <;> omega))) rfl rfl rfl ?_
    refine qt (ld_rd1 (h := 1) ty5 rfl rfl rfl (ints_get _ _ _ (by first | omega | (simp only [List.length_append, List.length_cons, List.length_nil, List.length_set, List.length_replicate, List.length_take, List.length_drop, ints_length, wr_length] <;> omega) | rfl))) rfl rfl rfl ?_
    refine qt (ev_conv Try.underlying5 Try.underlying126 rfl) rfl rfl rfl ?_
    refine qt (ev_shl rfl rfl (by omega)) rfl rfl rfl ?_
    refine qt (ev_or rfl rfl) rfl rfl rfl ?_
    refine qt (ev_move rfl) rfl rfl rfl ?_
    refine qt (ev_move rfl) rfl rfl rfl ?_
    refine qt (ev_mul64 rfl rfl (by omega) (by omega)) rfl rfl rfl ?_
    refine qt (ev_add64 rfl rfl (by omega) (by omega)) rfl rfl rfl ?_
    refine qt (ev_indexAddr_rdi (h := 1) Try.underlying22 ty5 rfl rfl rfl (by omega) (by first | omega | (simp only [List.length_append, List.length_cons, List.length_nil, List.length_set, List.length_replicate, List.length_take, List.length_drop, ints_length, wr_length] <;> omega))) rfl rfl rfl ?_
    refine qt (ld_rd1 (h := 1) ty5 rfl rfl rfl (ints_get _ _ _ (by first | omega | (simp only [List.length_append, List.length_cons, List.length_nil, List.length_set, List.length_replicate, List.length_take, List.length_drop, ints_length, wr_length] <;> omega) | rfl))) rfl rfl rfl ?_
    refine qt (ev_conv Try.underlying5 Try.underlying126 rfl) rfl rfl rfl ?_
    refine qt (ev_shl rfl rfl (by omega)) rfl rfl rfl ?_
    refine qt (ev_or rfl rfl) rfl rfl rfl ?_
    refine qt (ev_move rfl) rfl rfl rfl ?_
    refine qt (ev_move rfl) rfl rfl rfl ?_
    refine qt (ev_mul64 rfl rfl (by omega) (by omega)) rfl rfl rfl ?_
    refine qt (ev_add64 rfl rfl (by omega) (by omega)) rfl rfl rfl ?_
    refine qt (ev_indexAddr_rdi (h := 1) Try.underlying22 ty5 rfl rfl rfl (by omega) (by first | omega | (simp only [List.length_append, List.length_cons, List.length_nil, List.length_set, List.length_replicate, List.length_take, List.length_drop, ints_length, wr_length] <;> omega))) rfl rfl rfl ?_
    refine qt (ld_rd1 (h := 1) ty5 rfl rfl rfl (ints_get _ _ _ (by first | omega | (simp only [List.length_append, List.length_cons, List.length_nil, List.length_set, List.length_replicate, List.length_take, List.length_drop, ints_length, wr_length] <;> omega) | rfl))) rfl rfl rfl ?_
    refine qt (ev_conv Try.underlying5 Try.underlying126 rfl) rfl rfl rfl ?_
    refine qt (ev_or rfl rfl) rfl rfl rfl ?_
    refine qt_end ?_
    refine st (ev_indexAddr_arr Try.underlying128 ty126 rfl rfl (by omega) (by omega)) rfl rfl rfl ?_
    refine st_store1 6 ty126 rfl rfl rfl rfl (by first | omega | (simp only [List.length_append, List.length_cons, List.length_nil, List.length_set, List.length_replicate, List.length_take, List.length_drop, ints_length, wr_length] <;> omega) | rfl) rfl ?_
    refine at_heq (i := 6) rfl (by rw [ints_set]) ?_
    refine op_nil ?_
    refine ax_block ?_
    refine ax_then ?_
    refine At.regs (L' := [(0, _), (1, _), (2, _), (6, _), (7, _), (14, _), (15, _), (16, _), (17, _), (18, _), (19, _), (20, _), (21, _), (22, _), (23, _), (24, _), (25, _), (26, _), (27, _), (28, _), (29, _), (30, _), (31, _), (32, _), (33, _), (34, _), (35, _), (36, _), (37, _), (38, _), (39, _), (40, _), (41, _), (42, _), (43, _), (44, _), (45, _), (46, _), (47, _), (48, _), (49, _), (50, _), (51, _)]) (.cons rfl (.cons rfl (.cons rfl (.cons rfl (.cons rfl (.cons rfl (.cons rfl (.cons rfl (.cons rfl (.cons rfl (.cons rfl (.cons rfl (.cons rfl (.cons rfl (.cons rfl (.cons rfl (.cons rfl (.cons rfl (.cons rfl (.cons rfl (.cons rfl (.cons rfl (.cons rfl (.cons rfl (.cons rfl (.cons rfl (.cons rfl (.cons rfl (.cons rfl (.cons rfl (.cons rfl (.cons rfl (.cons rfl (.cons rfl (.cons rfl (.cons rfl (.cons rfl (.cons rfl (.cons rfl (.cons rfl (.cons rfl (.cons rfl (.cons rfl (.nil _)))))))))))))))))))))))))))))))))))))))))))) ?_
    refine cd_region ?_
    refine st (ev_add64 rfl rfl (by omega) (by omega)) rfl rfl rfl ?_
    refine st (ev_move rfl) rfl rfl rfl ?_
    refine op_nil ?_
    have e0 : 0 + (i : Int).toNat * 1 = i := by omega
    have e1 : (4 * (i : Int)).toNat * 1 = 4 * i := by omega
    have e2 : (4 * (i : Int) + 1).toNat * 1 = 4 * i + 1 := by omega
    have e3 : (4 * (i : Int) + 2).toNat * 1 = 4 * i + 2 := by omega
    have e4 : (4 * (i : Int) + 3).toNat * 1 = 4 * i + 3 := by omega
    refine ax_heq (i := 6) (v' := .blk b6 (.cells (ints .u32 (w1 b (i + 1))).toArray 128)) rfl (by simp only [e0, e1, e2, e3, e4]; rfl) ?_
    exact at_again (i + 1) (by omega) (by omega) (.cons rfl (.cons rfl (.cons rfl (.cons rfl (.cons rfl (.nil _)))))) (.cons rfl (.cons rfl (.nil _))) (.cons rfl (.cons rfl (.nil _)))
  ·
    obtain rfl : i = 16 := by omega
    refine cd_exit ?_
    refine ax_then_exit ?_
    refine ax_then_exit ?_
    refine ax_block_hit ?_
    refine ax_then ?_
    refine At.regs (L' := [(0, _), (2, _), (6, _)]) (.cons rfl (.cons rfl (.cons rfl (.nil _)))) ?_
    refine cd_seq ?_
    refine cd_seq ?_
    refine cd_region ?_
    refine st (ev_assign rfl) rfl rfl rfl ?_
    refine op_nil ?_
    refine ax_then ?_
    refine At.regs (L' := [(0, _), (2, _), (6, _), (8, _)]) (.cons rfl (.cons rfl (.cons rfl (.cons rfl (.nil _))))) ?_
    refine cd_block ?_
    refine cd_loop (ι := Nat) (fun i => i ≤ 48) (fun i => 48 - i)
        (fun i => [(0, .pointer (some ⟨bs, 0, none⟩)), (2, .pointer (some ⟨bk, 0, none⟩)), (6, .pointer (some ⟨b6, 0, none⟩)), (8, .int .i64 (16 + (i : Int)))])
        (fun i => [(0, .blk bs (.cells (ints .u32 (s)).toArray TS)), (6, .blk b6 (.cells (ints .u32 (w2 (w1 b 16) i)).toArray 128))])
        (fun i => [(1, .sl p 1 (ints .u8 b)), (2, .mem bk 0 (ints .u32 k))])
        0 (by omega) (.cons rfl (.cons rfl (.cons rfl (.cons rfl (.nil _))))) (.cons rfl (.cons rfl (.nil _))) (.cons rfl (.cons rfl (.nil _))) (fun i hi => ?_)
    have hw2 := w2_len (w1 b 16) i
    rw [w1_len] at hw2
    refine cd_seq ?_
    refine cd_seq ?_
    refine cd_region ?_
    refine st (ev_move rfl) rfl rfl rfl ?_
    refine st (ev_lss rfl rfl) rfl rfl rfl ?_
    refine op_nil ?_
    refine ax_then ?_
    refine At.regs (L' := [(0, _), (2, _), (6, _), (8, _), (53, _), (54, _)]) (.cons rfl (.cons rfl (.cons rfl (.cons rfl (.cons rfl (.cons rfl (.nil _))))))) ?_
    refine cd_if rfl (fun hc54 => ?_) (fun hc54 => ?_)
    ·
      refine cd_skip ?_
      refine ax_then ?_
      refine At.regs (L' := [(0, _), (2, _), (6, _), (8, _), (53, _), (54, _)]) (.cons rfl (.cons rfl (.cons rfl (.cons rfl (.cons rfl (.cons rfl (.nil _))))))) ?_
      refine cd_seq ?_
      refine cd_block ?_
      refine cd_open_tail 22 hmix (by decide +kernel) ?_
      refine qt (ev_move rfl) rfl rfl rfl ?_
      refine qt (ev_move rfl) rfl rfl rfl ?_
      refine qt (ev_sub64 rfl rfl (by omega) (by omega)) rfl rfl rfl ?_
      refine qt (ev_indexAddr_arr Try.underlying128 ty126 rfl rfl (by omega) (by omega)) rfl rfl rfl ?_
      refine qt (ld_blk1 (h := 6) ty126 rfl rfl rfl (ints_get _ _ _ (by first | omega | (simp only [List.length_append, List.length_cons, List.length_nil, List.length_set, List.length_replicate, List.length_take, List.length_drop, ints_length, wr_length] <;> omega) | rfl))) rfl rfl rfl ?_
      refine qt (ev_move rfl) rfl rfl rfl ?_
      refine qt (ev_sub64 rfl rfl (by omega) (by omega)) rfl rfl rfl ?_
      refine qt (ev_indexAddr_arr Try.underlying128 ty126 rfl rfl (by omega) (by omega)) rfl rfl rfl ?_
      refine qt (ld_blk1 (h := 6) ty126 rfl rfl rfl (ints_get _ _ _ (by first | omega | (simp only [List.length_append, List.length_cons, List.length_nil, List.length_set, List.length_replicate, List.length_take, List.length_drop, ints_length, wr_length] <;> omega) | rfl))) rfl rfl rfl ?_
      refine qt_callv has104 rfl (fun w1 sw => s0_any _ w1) rfl rfl ?_
      refine qt (ev_add rfl rfl) rfl rfl rfl ?_
      refine qt (ev_move rfl) rfl rfl rfl ?_
      refine qt (ev_sub64 rfl rfl (by omega) (by omega)) rfl rfl rfl ?_
      refine qt (ev_indexAddr_arr Try.underlying128 ty126 rfl rfl (by omega) (by omega)) rfl rfl rfl ?_
      refine qt (ld_blk1 (h := 6) ty126 rfl rfl rfl (ints_get _ _ _ (by first | omega | (simp only [List.length_append, List.length_cons, List.length_nil, List.length_set, List.length_replicate, List.length_take, List.length_drop, ints_length, wr_length] <;> omega) | rfl))) rfl rfl rfl ?_
      refine qt (ev_add rfl rfl) rfl rfl rfl ?_
      refine qt (ev_move rfl) rfl rfl rfl ?_
      refine qt (ev_sub64 rfl rfl (by omega) (by omega)) rfl rfl rfl ?_
      refine qt (ev_indexAddr_arr Try.underlying128 ty126 rfl rfl (by omega) (by omega)) rfl rfl rfl ?_
      refine qt (ld_blk1 (h := 6) ty126 rfl rfl rfl (ints_get _ _ _ (by first | omega | (simp only [List.length_append, List.length_cons, List.length_nil, List.length_set, List.length_replicate, List.length_take, List.length_drop, ints_length, wr_length] <;> omega) | rfl))) rfl rfl rfl ?_
      refine qt_callv has105 rfl (fun w1 sw => s1_any _ w1) rfl rfl ?_
      refine qt (ev_add rfl rfl) rfl rfl rfl ?_
      refine qt_end ?_
      refine st (ev_indexAddr_arr Try.underlying128 ty126 rfl rfl (by omega) (by omega)) rfl rfl rfl ?_
      refine st_store1 6 ty126 rfl rfl rfl rfl (by first | omega | (simp only [List.length_append, List.length_cons, List.length_nil, List.length_set, List.length_replicate, List.length_take, List.length_drop, ints_length, wr_length] <;> omega) | rfl) rfl ?_
      refine at_heq (i := 6) rfl (by rw [ints_set]) ?_
      refine op_nil ?_
      refine ax_block ?_
      refine ax_then ?_
      refine At.regs (L' := [(0, _), (2, _), (6, _), (8, _), (53, _), (54, _), (57, _), (58, _), (59, _), (60, _), (61, _), (62, _), (63, _), (64, _), (65, _), (66, _), (67, _), (68, _), (69, _), (70, _), (71, _), (72, _), (73, _), (74, _), (75, _), (76, _), (77, _), (78, _), (79, _)]) (.cons rfl (.cons rfl (.cons rfl (.cons rfl (.cons rfl (.cons rfl (.cons rfl (.cons rfl (.cons rfl (.cons rfl (.cons rfl (.cons rfl (.cons rfl (.cons rfl (.cons rfl (.cons rfl (.cons rfl (.cons rfl (.cons rfl (.cons rfl (.cons rfl (.cons rfl (.cons rfl (.cons rfl (.cons rfl (.cons rfl (.cons rfl (.cons rfl (.cons rfl (.nil _)))))))))))))))))))))))))))))) ?_
      refine cd_region ?_
      refine st (ev_move rfl) rfl rfl rfl ?_
      refine st (ev_add64 rfl rfl (by omega) (by omega)) rfl rfl rfl ?_
      refine st (ev_assign rfl) rfl rfl rfl ?_
      refine op_nil ?_
      have e0 : 0 + (16 + (i : Int)).toNat * 1 = 16 + i := by omega
      have e1 : 0 + (16 + (i : Int) - 16).toNat * 1 = 16 + i - 16 := by omega
      have e2 : 0 + (16 + (i : Int) - 15).toNat * 1 = 16 + i - 15 := by omega
      have e3 : 0 + (16 + (i : Int) - 7).toNat * 1 = 16 + i - 7 := by omega
      have e4 : 0 + (16 + (i : Int) - 2).toNat * 1 = 16 + i - 2 := by omega
      refine ax_heq (i := 6) (v' := .blk b6 (.cells (ints .u32 (w2 (w1 b 16) (i + 1))).toArray 128)) rfl (by simp only [e0, e1, e2, e3, e4]; rfl) ?_
      exact at_again (i + 1) (by omega) (by omega) (.cons rfl (.cons rfl (.cons rfl (.cons rfl (.nil _))))) (.cons rfl (.cons rfl (.nil _))) (.cons rfl (.cons rfl (.nil _)))
    ·
      obtain rfl : i = 48 := by omega
      refine cd_exit ?_
      refine ax_then_exit ?_
      refine ax_then_exit ?_
      refine ax_block_hit ?_
      refine ax_then ?_
      refine At.regs (L' := [(0, _), (2, _), (6, _)]) (.cons rfl (.cons rfl (.cons rfl (.nil _)))) ?_
      refine cd_seq ?_
      refine cd_region ?_
      refine st (ev_move rfl) rfl rfl rfl ?_
      refine st (ev_nilCheck rfl) rfl rfl rfl ?_
      refine st (ld_blk_all (h := 0) ty132 rfl rfl rfl (by first | omega | (simp only [List.length_append, List.length_cons, List.length_nil, List.length_set, List.length_replicate, List.length_take, List.length_drop, ints_length, wr_length] <;> omega) | rfl)) rfl rfl rfl ?_
      refine st_alloc (h := 9) ty132 rfl rfl rfl (fun b9 => ?_)
      refine st_store_all 9 ty132 rfl rfl rfl rfl (by first | omega | (simp only [List.length_append, List.length_cons, List.length_nil, List.length_set, List.length_replicate, List.length_take, List.length_drop, ints_length, wr_length] <;> omega) | rfl) (ints_one _ _) (by first | omega | (simp only [List.length_append, List.length_cons, List.length_nil, List.length_set, List.length_replicate, List.length_take, List.length_drop, ints_length, wr_length] <;> omega) | rfl) rfl ?_
      refine op_nil ?_
      refine ax_then ?_
      refine At.regs (L' := [(0, _), (2, _), (6, _), (9, _)]) (.cons rfl (.cons rfl (.cons rfl (.cons rfl (.nil _))))) ?_
      refine cd_seq ?_
      refine cd_seq ?_
      refine cd_region ?_
      refine st (ev_move rfl) rfl rfl rfl ?_
      refine op_nil ?_
      refine ax_then ?_
      refine At.regs (L' := [(0, _), (2, _), (6, _), (9, _), (83, _)]) (.cons rfl (.cons rfl (.cons rfl (.cons rfl (.cons rfl (.nil _)))))) ?_
      refine cd_block ?_
      refine cd_loop (ι := Nat) (fun i => i ≤ 64) (fun i => 64 - i)
          (fun i => [(0, .pointer (some ⟨bs, 0, none⟩)), (2, .pointer (some ⟨bk, 0, none⟩)), (6, .pointer (some ⟨b6, 0, none⟩)), (9, .pointer (some ⟨b9, 0, none⟩)), (83, .int .i64 (i : Int))])
          (fun i => [(0, .blk bs (.cells (ints .u32 (s)).toArray TS)), (6, .blk b6 (.cells (ints .u32 (sched b)).toArray 128)), (9, .blk b9 (.cells (ints .u32 (rnds k (sched b) s i)).toArray 132))])
          (fun i => [(1, .sl p 1 (ints .u8 b)), (2, .mem bk 0 (ints .u32 k))])
          0 (by omega) (.cons rfl (.cons rfl (.cons rfl (.cons rfl (.cons rfl (.nil _)))))) (.cons rfl (.cons rfl (.cons rfl (.nil _)))) (.cons rfl (.cons rfl (.nil _))) (fun i hi => ?_)
      have hv := rnds_len k (sched b) s hs i
      have hw := sched_len b
      refine cd_seq ?_
      refine cd_region ?_
      refine st (ev_lss rfl rfl) rfl rfl rfl ?_
      refine op_nil ?_
      refine ax_then ?_
      refine At.regs (L' := [(0, _), (2, _), (6, _), (9, _), (83, _), (84, _)]) (.cons rfl (.cons rfl (.cons rfl (.cons rfl (.cons rfl (.cons rfl (.nil _))))))) ?_
      refine cd_seq ?_
      refine cd_if rfl (fun hc84 => ?_) (fun hc84 => ?_)
      ·
        refine cd_skip ?_
        refine ax_then ?_
        refine At.regs (L' := [(0, _), (2, _), (6, _), (9, _), (83, _), (84, _)]) (.cons rfl (.cons rfl (.cons rfl (.cons rfl (.cons rfl (.cons rfl (.nil _))))))) ?_
        refine cd_seq ?_
        refine cd_block ?_
        refine cd_seq ?_
        refine cd_region ?_
        refine st (ev_move rfl) rfl rfl rfl ?_
        refine st (ev_assign rfl) rfl rfl rfl ?_
        refine op_nil ?_
        refine ax_then ?_
        refine At.regs (L' := [(0, _), (2, _), (6, _), (9, _), (10, _), (83, _), (84, _), (85, _)]) (.cons rfl (.cons rfl (.cons rfl (.cons rfl (.cons rfl (.cons rfl (.cons rfl (.cons rfl (.nil _))))))))) ?_
        refine cd_seq ?_
        refine cd_open hmix (by decide +kernel) ?_
        refine qt (ev_indexAddr_arrm 7 rfl Try.underlying132 ty126 rfl rfl (by decide) (by decide)) rfl rfl rfl ?_
        refine qt (ld_blk1 (h := 9) ty126 rfl rfl rfl (ints_get _ _ _ (by first | omega | (simp only [List.length_append, List.length_cons, List.length_nil, List.length_set, List.length_replicate, List.length_take, List.length_drop, ints_length, wr_length] <;> omega) | rfl))) rfl rfl rfl ?_
        refine qt (ev_indexAddr_arrm 4 rfl Try.underlying132 ty126 rfl rfl (by decide) (by decide)) rfl rfl rfl ?_
        refine qt (ld_blk1 (h := 9) ty126 rfl rfl rfl (ints_get _ _ _ (by first | omega | (simp only [List.length_append, List.length_cons, List.length_nil, List.length_set, List.length_replicate, List.length_take, List.length_drop, ints_length, wr_length] <;> omega) | rfl))) rfl rfl rfl ?_
        refine qt_callv has106 rfl (fun w1 sw => b1_any _ w1) rfl rfl ?_
        refine qt (ev_add rfl rfl) rfl rfl rfl ?_
        refine qt (ev_indexAddr_arrm 4 rfl Try.underlying132 ty126 rfl rfl (by decide) (by decide)) rfl rfl rfl ?_
        refine qt (ld_blk1 (h := 9) ty126 rfl rfl rfl (ints_get _ _ _ (by first | omega | (simp only [List.length_append, List.length_cons, List.length_nil, List.length_set, List.length_replicate, List.length_take, List.length_drop, ints_length, wr_length] <;> omega) | rfl))) rfl rfl rfl ?_
        refine qt (ev_indexAddr_arrm 5 rfl Try.underlying132 ty126 rfl rfl (by decide) (by decide)) rfl rfl rfl ?_
        refine qt (ld_blk1 (h := 9) ty126 rfl rfl rfl (ints_get _ _ _ (by first | omega | (simp only [List.length_append, List.length_cons, List.length_nil, List.length_set, List.length_replicate, List.length_take, List.length_drop, ints_length, wr_length] <;> omega) | rfl))) rfl rfl rfl ?_
        refine qt (ev_indexAddr_arrm 6 rfl Try.underlying132 ty126 rfl rfl (by decide) (by decide)) rfl rfl rfl ?_
        refine qt (ld_blk1 (h := 9) ty126 rfl rfl rfl (ints_get _ _ _ (by first | omega | (simp only [List.length_append, List.length_cons, List.length_nil, List.length_set, List.length_replicate, List.length_take, List.length_drop, ints_length, wr_length] <;> omega) | rfl))) rfl rfl rfl ?_
        refine qt_callv has107 rfl (fun w1 sw => ch_any _ _ _ w1) rfl rfl ?_
        refine qt (ev_add rfl rfl) rfl rfl rfl ?_
        refine qt (ev_move rfl) rfl rfl rfl ?_
        refine qt (ev_move rfl) rfl rfl rfl ?_
        refine qt (ev_nilCheck rfl) rfl rfl rfl ?_
        refine qt (ev_indexAddr_arr Try.underlying128 ty126 rfl rfl (by omega) (by omega)) rfl rfl rfl ?_
        refine qt (ld_mem1 (h := 2) ty126 rfl rfl rfl (Nat.zero_add _).symm (ints_get _ _ _ (by first | omega | (simp only [List.length_append, List.length_cons, List.length_nil, List.length_set, List.length_replicate, List.length_take, List.length_drop, ints_length, wr_length] <;> omega) | rfl))) rfl rfl rfl ?_
        refine qt (ev_add rfl rfl) rfl rfl rfl ?_
        refine qt (ev_move rfl) rfl rfl rfl ?_
        refine qt (ev_indexAddr_arr Try.underlying128 ty126 rfl rfl (by omega) (by omega)) rfl rfl rfl ?_
        refine qt (ld_blk1 (h := 6) ty126 rfl rfl rfl (ints_get _ _ _ (by first | omega | (simp only [List.length_append, List.length_cons, List.length_nil, List.length_set, List.length_replicate, List.length_take, List.length_drop, ints_length, wr_length] <;> omega) | rfl))) rfl rfl rfl ?_
        refine qt (ev_add rfl rfl) rfl rfl rfl ?_
        refine qt (ev_assign rfl) rfl rfl rfl ?_
        refine qt_end ?_
        refine op_nil ?_
        refine ax_then ?_
        refine At.regs (L' := [(0, _), (2, _), (6, _), (9, _), (10, _), (11, _), (83, _), (84, _), (85, _), (86, _), (87, _), (88, _), (89, _), (90, _), (91, _), (92, _), (93, _), (94, _), (95, _), (96, _), (97, _), (98, _), (99, _), (100, _), (101, _), (102, _), (103, _), (104, _), (105, _), (106, _), (107, _), (108, _), (109, _)]) (.cons rfl (.cons rfl (.cons rfl (.cons rfl (.cons rfl (.cons rfl (.cons rfl (.cons rfl (.cons rfl (.cons rfl (.cons rfl (.cons rfl (.cons rfl (.cons rfl (.cons rfl (.cons rfl (.cons rfl (.cons rfl (.cons rfl (.cons rfl (.cons rfl (.cons rfl (.cons rfl (.cons rfl (.cons rfl (.cons rfl (.cons rfl (.cons rfl (.cons rfl (.cons rfl (.cons rfl (.cons rfl (.cons rfl (.nil _)))))))))))))))))))))))))))))))))) ?_
        refine cd_seq ?_
        refine cd_open hmix (by decide +kernel) ?_
        refine qt (ev_indexAddr_arrm 0 rfl Try.underlying132 ty126 rfl rfl (by decide) (by decide)) rfl rfl rfl ?_
        refine qt (ld_blk1 (h := 9) ty126 rfl rfl rfl (ints_get _ _ _ (by first | omega | (simp only [List.length_append, List.length_cons, List.length_nil, List.length_set, List.length_replicate, List.length_take, List.length_drop, ints_length, wr_length] <;> omega) | rfl))) rfl rfl rfl ?_
        refine qt_callv has108 rfl (fun w1 sw => b0_any _ w1) rfl rfl ?_
        refine qt (ev_indexAddr_arrm 0 rfl Try.underlying132 ty126 rfl rfl (by decide) (by decide)) rfl rfl rfl ?_
        refine qt (ld_blk1 (h := 9) ty126 rfl rfl rfl (ints_get _ _ _ (by first | omega | (simp only [List.length_append, List.length_cons, List.length_nil, List.length_set, List.length_replicate, List.length_take, List.length_drop, ints_length, wr_length] <;> omega) | rfl))) rfl rfl rfl ?_
        refine qt (ev_indexAddr_arrm 1 rfl Try.underlying132 ty126 rfl rfl (by decide) (by decide)) rfl rfl rfl ?_
        refine qt (ld_blk1 (h := 9) ty126 rfl rfl rfl (ints_get _ _ _ (by first | omega | (simp only [List.length_append, List.length_cons, List.length_nil, List.length_set, List.length_replicate, List.length_take, List.length_drop, ints_length, wr_length] <;> omega) | rfl))) rfl rfl rfl ?_
        refine qt (ev_indexAddr_arrm 2 rfl Try.underlying132 ty126 rfl rfl (by decide) (by decide)) rfl rfl rfl ?_
        refine qt (ld_blk1 (h := 9) ty126 rfl rfl rfl (ints_get _ _ _ (by first | omega | (simp only [List.length_append, List.length_cons, List.length_nil, List.length_set, List.length_replicate, List.length_take, List.length_drop, ints_length, wr_length] <;> omega) | rfl))) rfl rfl rfl ?_
        refine qt_callv has109 rfl (fun w1 sw => mj_any _ _ _ w1) rfl rfl ?_
        refine qt (ev_add rfl rfl) rfl rfl rfl ?_
        refine qt (ev_assign rfl) rfl rfl rfl ?_
        refine qt_end ?_
        refine op_nil ?_
        refine ax_then ?_
        refine At.regs (L' := [(0, _), (2, _), (6, _), (9, _), (10, _), (11, _), (12, _), (83, _), (84, _), (85, _), (86, _), (87, _), (88, _), (89, _), (90, _), (91, _), (92, _), (93, _), (94, _), (95, _), (96, _), (97, _), (98, _), (99, _), (100, _), (101, _), (102, _), (103, _), (104, _), (105, _), (106, _), (107, _), (108, _), (109, _), (110, _), (111, _), (112, _), (113, _), (114, _), (115, _), (116, _), (117, _), (118, _), (119, _), (120, _)]) (.cons rfl (.cons rfl (.cons rfl (.cons rfl (.cons rfl (.cons rfl (.cons rfl (.cons rfl (.cons rfl (.cons rfl (.cons rfl (.cons rfl (.cons rfl (.cons rfl (.cons rfl (.cons rfl (.cons rfl (.cons rfl (.cons rfl (.cons rfl (.cons rfl (.cons rfl (.cons rfl (.cons rfl (.cons rfl (.cons rfl (.cons rfl (.cons rfl (.cons rfl (.cons rfl (.cons rfl (.cons rfl (.cons rfl (.cons rfl (.cons rfl (.cons rfl (.cons rfl (.cons rfl (.cons rfl (.cons rfl (.cons rfl (.cons rfl (.cons rfl (.cons rfl (.cons rfl (.nil _)))))))))))))))))))))))))))))))))))))))))))))) ?_
        refine cd_region ?_
        refine st (ev_move rfl) rfl rfl rfl ?_
        refine st (ev_move rfl) rfl rfl rfl ?_
        refine st (ev_add rfl rfl) rfl rfl rfl ?_
        refine st (ev_indexAddr_arrm 0 rfl Try.underlying132 ty126 rfl rfl (by decide) (by decide)) rfl rfl rfl ?_
        refine st (ld_blk1 (h := 9) ty126 rfl rfl rfl (ints_get _ _ _ (by first | omega | (simp only [List.length_append, List.length_cons, List.length_nil, List.length_set, List.length_replicate, List.length_take, List.length_drop, ints_length, wr_length] <;> omega) | rfl))) rfl rfl rfl ?_
        refine st (ev_indexAddr_arrm 1 rfl Try.underlying132 ty126 rfl rfl (by decide) (by decide)) rfl rfl rfl ?_
        refine st (ld_blk1 (h := 9) ty126 rfl rfl rfl (ints_get _ _ _ (by first | omega | (simp only [List.length_append, List.length_cons, List.length_nil, List.length_set, List.length_replicate, List.length_take, List.length_drop, ints_length, wr_length] <;> omega) | rfl))) rfl rfl rfl ?_
        refine st (ev_indexAddr_arrm 2 rfl Try.underlying132 ty126 rfl rfl (by decide) (by decide)) rfl rfl rfl ?_
        refine st (ld_blk1 (h := 9) ty126 rfl rfl rfl (ints_get _ _ _ (by first | omega | (simp only [List.length_append, List.length_cons, List.length_nil, List.length_set, List.length_replicate, List.length_take, List.length_drop, ints_length, wr_length] <;> omega) | rfl))) rfl rfl rfl ?_
        refine st (ev_indexAddr_arrm 3 rfl Try.underlying132 ty126 rfl rfl (by decide) (by decide)) rfl rfl rfl ?_
        refine st (ld_blk1 (h := 9) ty126 rfl rfl rfl (ints_get _ _ _ (by first | omega | (simp only [List.length_append, List.length_cons, List.length_nil, List.length_set, List.length_replicate, List.length_take, List.length_drop, ints_length, wr_length] <;> omega) | rfl))) rfl rfl rfl ?_
        refine st (ev_move rfl) rfl rfl rfl ?_
        refine st (ev_add rfl rfl) rfl rfl rfl ?_
        refine st (ev_indexAddr_arrm 4 rfl Try.underlying132 ty126 rfl rfl (by decide) (by decide)) rfl rfl rfl ?_
        refine st (ld_blk1 (h := 9) ty126 rfl rfl rfl (ints_get _ _ _ (by first | omega | (simp only [List.length_append, List.length_cons, List.length_nil, List.length_set, List.length_replicate, List.length_take, List.length_drop, ints_length, wr_length] <;> omega) | rfl))) rfl rfl rfl ?_
        refine st (ev_indexAddr_arrm 5 rfl Try.underlying132 ty126 rfl rfl (by decide) (by decide)) rfl rfl rfl ?_
        refine st (ld_blk1 (h := 9) ty126 rfl rfl rfl (ints_get _ _ _ (by first | omega | (simp only [List.length_append, List.length_cons, List.length_nil, List.length_set, List.length_replicate, List.length_take, List.length_drop, ints_length, wr_length] <;> omega) | rfl))) rfl rfl rfl ?_
        refine st (ev_indexAddr_arrm 6 rfl Try.underlying132 ty126 rfl rfl (by decide) (by decide)) rfl rfl rfl ?_
        refine st (ld_blk1 (h := 9) ty126 rfl rfl rfl (ints_get _ _ _ (by first | omega | (simp only [List.length_append, List.length_cons, List.length_nil, List.length_set, List.length_replicate, List.length_take, List.length_drop, ints_length, wr_length] <;> omega) | rfl))) rfl rfl rfl ?_
        refine st (ev_build_ints (xs := [_, _, _, _, _, _, _, _]) (zs := List.replicate 8 0) ty132 rfl ty126 rfl rfl rfl rfl rfl) rfl rfl rfl ?_
        refine st_store_all 9 ty132 rfl rfl rfl rfl (by first | omega | (simp only [List.length_append, List.length_cons, List.length_nil, List.length_set, List.length_replicate, List.length_take, List.length_drop, ints_length, wr_length] <;> omega) | rfl) (ints_one _ _) (by first | omega | (simp only [List.length_append, List.length_cons, List.length_nil, List.length_set, List.length_replicate, List.length_take, List.length_drop, ints_length, wr_length] <;> omega) | rfl) rfl ?_
        refine op_nil ?_
        refine ax_block ?_
        refine ax_then ?_
        refine At.regs (L' := [(0, _), (2, _), (6, _), (9, _), (10, _), (11, _), (12, _), (83, _), (84, _), (85, _), (86, _), (87, _), (88, _), (89, _), (90, _), (91, _), (92, _), (93, _), (94, _), (95, _), (96, _), (97, _), (98, _), (99, _), (100, _), (101, _), (102, _), (103, _), (104, _), (105, _), (106, _), (107, _), (108, _), (109, _), (110, _), (111, _), (112, _), (113, _), (114, _), (115, _), (116, _), (117, _), (118, _), (119, _), (120, _), (121, _), (122, _), (123, _), (124, _), (125, _), (126, _), (127, _), (128, _), (129, _), (130, _), (131, _), (132, _), (133, _), (134, _), (135, _), (136, _), (137, _), (138, _), (139, _), (140, _)]) (.cons rfl (.cons rfl (.cons rfl (.cons rfl (.cons rfl (.cons rfl (.cons rfl (.cons rfl (.cons rfl (.cons rfl (.cons rfl (.cons rfl (.cons rfl (.cons rfl (.cons rfl (.cons rfl (.cons rfl (.cons rfl (.cons rfl (.cons rfl (.cons rfl (.cons rfl (.cons rfl (.cons rfl (.cons rfl (.cons rfl (.cons rfl (.cons rfl (.cons rfl (.cons rfl (.cons rfl (.cons rfl (.cons rfl (.cons rfl (.cons rfl (.cons rfl (.cons rfl (.cons rfl (.cons rfl (.cons rfl (.cons rfl (.cons rfl (.cons rfl (.cons rfl (.cons rfl (.cons rfl (.cons rfl (.cons rfl (.cons rfl (.cons rfl (.cons rfl (.cons rfl (.cons rfl (.cons rfl (.cons rfl (.cons rfl (.cons rfl (.cons rfl (.cons rfl (.cons rfl (.cons rfl (.cons rfl (.cons rfl (.cons rfl (.cons rfl (.nil _)))))))))))))))))))))))))))))))))))))))))))))))))))))))))))))))))) ?_
        refine cd_region ?_
        refine st (ev_add64 rfl rfl (by omega) (by omega)) rfl rfl rfl ?_
        refine st (ev_move rfl) rfl rfl rfl ?_
        refine op_nil ?_
        have e0 : 0 + (i : Int).toNat * 1 = i := by omega
        refine ax_heq (i := 9) (v' := .blk b9 (.cells (ints .u32 (rnds k (sched b) s (i + 1))).toArray 132)) rfl (by simp only [e0]; simp only [rnds, rnd, tt, uu, add]) ?_
        exact at_again (i + 1) (by omega) (by omega) (.cons rfl (.cons rfl (.cons rfl (.cons rfl (.cons rfl (.nil _)))))) (.cons rfl (.cons rfl (.cons rfl (.nil _)))) (.cons rfl (.cons rfl (.nil _)))
      ·
        obtain rfl : i = 64 := by omega
        refine cd_exit ?_
        refine ax_then_exit ?_
        refine ax_then_exit ?_
        refine ax_block_hit ?_
        refine ax_then ?_
        refine At.regs (L' := [(0, _), (9, _)]) (.cons rfl (.cons rfl (.nil _))) ?_
        refine cd_seq ?_
        refine cd_region ?_
        refine st (ev_move rfl) rfl rfl rfl ?_
        refine op_nil ?_
        refine ax_then ?_
        refine At.regs (L' := [(0, _), (9, _), (142, _)]) (.cons rfl (.cons rfl (.cons rfl (.nil _)))) ?_
        refine cd_block ?_
        refine cd_loop (ι := Nat) (fun i => i ≤ 8) (fun i => 8 - i)
            (fun i => [(0, .pointer (some ⟨bs, 0, none⟩)), (9, .pointer (some ⟨b9, 0, none⟩)), (142, .int .i64 (i : Int))])
            (fun i => [(0, .blk bs (.cells (ints .u32 (adds s (rnds k (sched b) s 64) i)).toArray TS)), (9, .blk b9 (.cells (ints .u32 (rnds k (sched b) s 64)).toArray 132))])
            (fun i => [(1, .sl p 1 (ints .u8 b)), (2, .mem bk 0 (ints .u32 k))])
            0 (by omega) (.cons rfl (.cons rfl (.cons rfl (.nil _)))) (.cons rfl (.cons rfl (.nil _))) (.cons rfl (.cons rfl (.nil _))) (fun i hi => ?_)
        have hv := rnds_len k (sched b) s hs 64
        have hw := adds_len s (rnds k (sched b) s 64) i
        refine cd_seq ?_
        refine cd_region ?_
        refine st (ev_lss rfl rfl) rfl rfl rfl ?_
        refine op_nil ?_
        refine ax_then ?_
        refine At.regs (L' := [(0, _), (9, _), (142, _), (143, _)]) (.cons rfl (.cons rfl (.cons rfl (.cons rfl (.nil _))))) ?_
        refine cd_seq ?_
        refine cd_if rfl (fun hc143 => ?_) (fun hc143 => ?_)
        ·
          refine cd_skip ?_
          refine ax_then ?_
          refine At.regs (L' := [(0, _), (9, _), (142, _), (143, _)]) (.cons rfl (.cons rfl (.cons rfl (.cons rfl (.nil _))))) ?_
          refine cd_seq ?_
          refine cd_block ?_
          refine cd_seq ?_
          refine cd_region ?_
          refine st (ev_move rfl) rfl rfl rfl ?_
          refine st (ev_assign rfl) rfl rfl rfl ?_
          refine op_nil ?_
          refine ax_then ?_
          refine At.regs (L' := [(0, _), (9, _), (13, _), (142, _), (143, _), (144, _)]) (.cons rfl (.cons rfl (.cons rfl (.cons rfl (.cons rfl (.cons rfl (.nil _))))))) ?_
          refine cd_open_tail 10 hmix (by decide +kernel) ?_
          refine qt (ev_move rfl) rfl rfl rfl ?_
          refine qt (ev_move rfl) rfl rfl rfl ?_
          refine qt (ev_nilCheck rfl) rfl rfl rfl ?_
          refine qt (ev_indexAddr_arr Try.underlying132 ty126 rfl rfl (by omega) (by omega)) rfl rfl rfl ?_
          refine qt (ld_blk1 (h := 0) ty126 rfl rfl rfl (ints_get _ _ _ (by first | omega | (simp only [List.length_append, List.length_cons, List.length_nil, List.length_set, List.length_replicate, List.length_take, List.length_drop, ints_length, wr_length] <;> omega) | rfl))) rfl rfl rfl ?_
          refine qt (ev_move rfl) rfl rfl rfl ?_
          refine qt (ev_indexAddr_arr Try.underlying132 ty126 rfl rfl (by omega) (by omega)) rfl rfl rfl ?_
          refine qt (ld_blk1 (h := 9) ty126 rfl rfl rfl (ints_get _ _ _ (by first | omega | (simp only [List.length_append, List.length_cons, List.length_nil, List.length_set, List.length_replicate, List.length_take, List.length_drop, ints_length, wr_length] <;> omega) | rfl))) rfl rfl rfl ?_
          refine qt (ev_add rfl rfl) rfl rfl rfl ?_
          refine qt (ev_nilCheck rfl) rfl rfl rfl ?_
          refine qt_end ?_
          refine st (ev_indexAddr_arr Try.underlying132 ty126 rfl rfl (by omega) (by omega)) rfl rfl rfl ?_
          refine st_store1 0 ty126 rfl rfl rfl rfl (by first | omega | (simp only [List.length_append, List.length_cons, List.length_nil, List.length_set, List.length_replicate, List.length_take, List.length_drop, ints_length, wr_length] <;> omega) | rfl) rfl ?_
          refine at_heq (i := 0) rfl (by rw [ints_set]) ?_
          refine op_nil ?_
          refine ax_block ?_
          refine ax_then ?_
          refine At.regs (L' := [(0, _), (9, _), (13, _), (142, _), (143, _), (144, _), (145, _), (146, _), (147, _), (148, _), (149, _), (150, _), (151, _), (152, _), (153, _), (154, _), (155, _)]) (.cons rfl (.cons rfl (.cons rfl (.cons rfl (.cons rfl (.cons rfl (.cons rfl (.cons rfl (.cons rfl (.cons rfl (.cons rfl (.cons rfl (.cons rfl (.cons rfl (.cons rfl (.cons rfl (.cons rfl (.nil _)))))))))))))))))) ?_
          refine cd_region ?_
          refine st (ev_add64 rfl rfl (by omega) (by omega)) rfl rfl rfl ?_
          refine st (ev_move rfl) rfl rfl rfl ?_
          refine op_nil ?_
          have e0 : 0 + (i : Int).toNat * 1 = i := by omega
          refine ax_heq (i := 0) (v' := .blk bs (.cells (ints .u32 (adds s (rnds k (sched b) s 64) (i + 1))).toArray TS)) rfl (by simp only [e0]; rfl) ?_
          exact at_again (i + 1) (by omega) (by omega) (.cons rfl (.cons rfl (.cons rfl (.nil _)))) (.cons rfl (.cons rfl (.nil _))) (.cons rfl (.cons rfl (.nil _)))
        ·
          obtain rfl : i = 8 := by omega
          refine cd_exit ?_
          refine ax_then_exit ?_
          refine ax_then_exit ?_
          refine ax_block_hit ?_
          refine rt_none (.inr rfl) Try.results101 ?_
          exact fun w1 sw => ⟨(), trivial, rfl, sw.gives (.cons rfl (.nil _))⟩

end Go.Proofs.Yteedclmcgifmpaa
