/- Walks: octet's Reader; Encode, Decode. -/
import Derived.Test.YteedclmcgifmpaaO1
import Derived.Test.YteedclmcgifmpaaRd5
namespace Go.Proofs.Yteedclmcgifmpaa
open Go Go.RowKit Fw
open Sha
open Ots
open Mk
set_option linter.unusedVariables false
set_option linter.unusedSimpArgs false

set_option maxRecDepth 20000 in
set_option maxHeartbeats 1000000 in
theorem rbad_any (b : Nat) (rv : Value) (bad : Bool) (w : World) (hb : w.heap[b]? = some (.cells (List.toArray [rv, .bool bad]) 125)) : Calls Try.prog 93 #[.pointer (some ⟨b, 0, none⟩)] w (Post (ι := Unit) w [b] (fun _ => True) (fun _ => .tuple #[]) (fun _ => [(0, .blk (b) (.cells ([Ky.nil0, .bool (true)]).toArray 125))])) := by
  refine calls_at (vs := [.pointer (some ⟨b, 0, none⟩)]) (X := [b]) (H := [(0, .blk (b) (.cells ([rv, .bool (bad)]).toArray 125))]) (F := []) 10 Try.func93 rfl rfl rfl (Sat.blkX 0 hb) ?_
  refine cd_seq ?_
  refine cd_region ?_
  refine st (ev_move rfl) rfl rfl rfl ?_
  refine st (ev_neq_ptr_nil Try.underlying97 rfl rfl) rfl rfl rfl ?_
  refine op_nil ?_
  refine ax_then ?_
  refine At.regs (L' := [(0, _), (3, _)]) (.cons rfl (.cons rfl (.nil _))) ?_
  refine cd_true rfl ?_
  refine cd_region ?_
  refine st (ev_move rfl) rfl rfl rfl ?_
  refine st (ev_move rfl) rfl rfl rfl ?_
  refine st (ev_nilCheck rfl) rfl rfl rfl ?_
  refine st (ev_fieldAddr (b := _) Try.underlying125 (f := _) rfl ty22 (by decide) rfl) rfl rfl rfl ?_
  refine st_store1 0 ty22 rfl rfl rfl rfl (show 0 < 2 from by decide) rfl ?_
  refine at_heq (i := 0) (v' := .blk (b) (.cells ([Ky.nil0, .bool (bad)]).toArray 125)) rfl rfl ?_
  refine st (ev_nilCheck rfl) rfl rfl rfl ?_
  refine st (ev_fieldAddr (b := _) Try.underlying125 (f := _) rfl ty4 (by decide) rfl) rfl rfl rfl ?_
  refine st_store1 0 ty4 rfl rfl rfl rfl (show 1 < 2 from by decide) rfl ?_
  refine at_heq (i := 0) (v' := .blk (b) (.cells ([Ky.nil0, .bool (true)]).toArray 125)) rfl rfl ?_
  refine op_nil ?_
  refine rt_none (.inr rfl) Try.results93 ?_
  exact fun w1 sw => ⟨(), trivial, rfl, sw.gives (N := [(0, _)]) (.cons rfl (.nil _))⟩

set_option maxRecDepth 20000 in
set_option maxHeartbeats 2000000 in
theorem rraw_ok (b : Nat) (rv : Value) (bad : Bool) (r : List Int) (w : World) (hb : w.heap[b]? = some (.cells (List.toArray [rv, .bool bad]) 125)) (h : Rd w rv 1 (ints .u8 r)) (ho : FE.off b (.sl rv 1 (ints .u8 r))) (hr : r.length ≤ 1000000) (hk : 32 ≤ r.length) : Calls Try.prog 94 #[.pointer (some ⟨b, 0, none⟩), .int .i64 32] w (Post (ι := Value) w [b] (fun _ => True) (fun x => x) (fun x => [(0, .blk (b) (.cells ([Ky.rawV rv r, .bool (bad || decide (r.length < 32))]).toArray 125)), (1, .own (x) 5 1 (ints .u8 (Ky.rawOut r)))])) := by
  refine calls_at (vs := [.pointer (some ⟨b, 0, none⟩), .int .i64 32]) (X := [b]) (H := [(0, .blk (b) (.cells ([rv, .bool (bad)]).toArray 125))]) (F := [(1, .sl rv 1 (ints .u8 r))]) 40 Try.func94 rfl rfl rfl ((Sat.blkX 0 hb).readb (f := .sl rv 1 (ints .u8 r)) 1 h ho) ?_
  refine cd_seq ?_
  refine cd_region ?_
  refine st (ev_assign rfl) rfl rfl rfl ?_
  refine at_own_nil 4 5 1 ?_
  refine at_heq (i := 4) (v' := .own (.slice none 0 0) 5 1 (ints .u8 [])) rfl rfl ?_
  refine op_nil ?_
  refine ax_then ?_
  refine At.regs (L' := [(0, _), (1, _), (4, _)]) (.cons rfl (.cons rfl (.cons rfl (.nil _)))) ?_
  refine cd_seq ?_
  refine cd_seq ?_
  refine cd_region ?_
  refine st (ev_move rfl) rfl rfl rfl ?_
  refine st (ev_eql_ptr_nil Try.underlying97 rfl rfl) rfl rfl rfl ?_
  refine st (ev_move rfl) rfl rfl rfl ?_
  refine st (ev_move rfl) rfl rfl rfl ?_
  refine st (ev_lss rfl rfl) rfl rfl rfl ?_
  refine st (ev_pick_f rfl rfl) rfl rfl rfl ?_
  refine st (ev_move rfl) rfl rfl rfl ?_
  refine at_eq (i := 12) (v' := .bool false) rfl (by rfl) ?_
  refine st (ev_move rfl) rfl rfl rfl ?_
  refine st (ev_move rfl) rfl rfl rfl ?_
  refine st (ev_nilCheck rfl) rfl rfl rfl ?_
  refine st (ev_fieldAddr (b := _) Try.underlying125 (f := _) rfl ty22 (by decide) rfl) rfl rfl rfl ?_
  refine st (ld_blk1 (h := 0) ty22 rfl rfl rfl rfl) rfl rfl rfl ?_
  refine st (ev_len_rdi (h := 1) Try.underlying22 rfl rfl) rfl rfl rfl ?_
  refine st (ev_gtr rfl rfl) rfl rfl rfl ?_
  refine st (ev_pick_f rfl rfl) rfl rfl rfl ?_
  refine op_nil ?_
  refine ax_then ?_
  refine At.regs (L' := [(0, _), (1, _), (4, _), (20, _)]) (.cons rfl (.cons rfl (.cons rfl (.cons rfl (.nil _))))) ?_
  refine cd_if_f rfl (by omega) ?_
  refine cd_skip ?_
  refine ax_then ?_
  refine At.regs (L' := [(0, _), (1, _), (4, _)]) (.cons rfl (.cons rfl (.cons rfl (.nil _)))) ?_
  refine cd_seq ?_
  refine cd_region ?_
  refine st (ev_move rfl) rfl rfl rfl ?_
  refine st (ev_nilCheck rfl) rfl rfl rfl ?_
  refine st (ev_fieldAddr (b := _) Try.underlying125 (f := _) rfl ty22 (by decide) rfl) rfl rfl rfl ?_
  refine st (ld_blk1 (h := 0) ty22 rfl rfl rfl rfl) rfl rfl rfl ?_
  refine st (ev_move rfl) rfl rfl rfl ?_
  refine st (ev_slicei_hi Try.underlying22 ty5 rfl rfl (fun w1 sw => sw.sl_rd (h := 1) rfl) (by omega) (by first | omega | (simp only [List.length_append, List.length_cons, List.length_nil, List.length_set, List.length_replicate, List.length_take, List.length_drop, ints_length, wr_length, sha_len, node_len, recov_len, Ky.named_len, Ky.keyPub_len, Ky.hashOf_len] <;> omega))) rfl rfl rfl ?_
  refine at_eq (i := 28) (v' := cutAt 1 rv 0 32) rfl rfl ?_
  refine st_call has92 rfl (fun w1 sw => rn 29 (clone_any (cutAt 1 rv 0 32) (r.take 32) w1 (by rw [List.length_take]; omega) (by have := (sw.sl_rd (h := 1) rfl).cuti (lo := 0) (hi := 32) (by omega) hk; simpa using this))) nil_all rfl rfl (fun v29 _ => ?_)
  refine at_heq (i := 29) (v' := .own (v29) 5 1 (ints .u8 (Ky.rawOut r))) rfl (by rw [show Ky.rawOut r = r.take 32 from if_pos hk]) ?_
  refine st (ev_assign rfl) rfl rfl rfl ?_
  refine op_nil ?_
  refine ax_then ?_
  refine At.regs (L' := [(0, _), (1, _), (4, _), (5, _)]) (.cons rfl (.cons rfl (.cons rfl (.cons rfl (.nil _))))) ?_
  refine cd_seq ?_
  refine cd_region ?_
  refine st (ev_move rfl) rfl rfl rfl ?_
  refine st (ev_move rfl) rfl rfl rfl ?_
  refine st (ev_nilCheck rfl) rfl rfl rfl ?_
  refine st (ev_fieldAddr (b := _) Try.underlying125 (f := _) rfl ty22 (by decide) rfl) rfl rfl rfl ?_
  refine st (ld_blk1 (h := 0) ty22 rfl rfl rfl rfl) rfl rfl rfl ?_
  refine st (ev_move rfl) rfl rfl rfl ?_
  refine st (ev_slicei_lo Try.underlying22 ty5 rfl rfl (fun w1 sw => sw.sl_rd (h := 1) rfl) (by omega) (by first | omega | (simp only [List.length_append, List.length_cons, List.length_nil, List.length_set, List.length_replicate, List.length_take, List.length_drop, ints_length, wr_length, sha_len, node_len, recov_len, Ky.named_len, Ky.keyPub_len, Ky.hashOf_len] <;> omega))) rfl rfl rfl ?_
  refine st (ev_nilCheck rfl) rfl rfl rfl ?_
  refine st (ev_fieldAddr (b := _) Try.underlying125 (f := _) rfl ty22 (by decide) rfl) rfl rfl rfl ?_
  refine st_store1 0 ty22 rfl rfl rfl (rd_shape (h.cuti (lo := 32) (hi := r.length) hk (Nat.le_refl _))).2 (show 0 < 2 from by decide) rfl ?_
  refine at_heq (i := 0) (v' := .blk (b) (.cells ([Ky.rawV rv r, .bool (bad || decide (r.length < 32))]).toArray 125)) rfl (by rw [show Ky.rawV rv r = cutAt 1 rv 32 r.length from if_pos hk, decide_eq_false (by omega), Bool.or_false]; rfl) ?_
  refine op_nil ?_
  refine ax_then ?_
  refine At.regs (L' := [(4, _), (5, _)]) (.cons rfl (.cons rfl (.nil _))) ?_
  refine cd_seq ?_
  refine cd_region ?_
  refine st (ev_move rfl) rfl rfl rfl ?_
  refine st (ev_assign rfl) rfl rfl rfl ?_
  refine op_nil ?_
  refine ax_then ?_
  refine At.regs (L' := [(4, _)]) (.cons rfl (.nil _)) ?_
  refine cd_ret ?_
  refine rt_tmp (.inl rfl) Try.results94 rfl ?_
  exact fun w1 sw => ⟨v29, trivial, rfl, (sw.gives (N := [(0, _), (29, _)]) (.cons rfl (.cons rfl (.nil _)))).rn2 (by decide) 0 1⟩

set_option maxRecDepth 20000 in
set_option maxHeartbeats 2000000 in
theorem rraw_no (b : Nat) (rv : Value) (bad : Bool) (r : List Int) (w : World) (hb : w.heap[b]? = some (.cells (List.toArray [rv, .bool bad]) 125)) (h : Rd w rv 1 (ints .u8 r)) (ho : FE.off b (.sl rv 1 (ints .u8 r))) (hr : r.length ≤ 1000000) (hk : r.length < 32) : Calls Try.prog 94 #[.pointer (some ⟨b, 0, none⟩), .int .i64 32] w (Post (ι := Value) w [b] (fun _ => True) (fun x => x) (fun x => [(0, .blk (b) (.cells ([Ky.rawV rv r, .bool (bad || decide (r.length < 32))]).toArray 125)), (1, .own (x) 5 1 (ints .u8 (Ky.rawOut r)))])) := by
  refine calls_at (vs := [.pointer (some ⟨b, 0, none⟩), .int .i64 32]) (X := [b]) (H := [(0, .blk (b) (.cells ([rv, .bool (bad)]).toArray 125))]) (F := [(1, .sl rv 1 (ints .u8 r))]) 40 Try.func94 rfl rfl rfl ((Sat.blkX 0 hb).readb (f := .sl rv 1 (ints .u8 r)) 1 h ho) ?_
  refine cd_seq ?_
  refine cd_region ?_
  refine st (ev_assign rfl) rfl rfl rfl ?_
  refine at_own_nil 4 5 1 ?_
  refine at_heq (i := 4) (v' := .own (.slice none 0 0) 5 1 (ints .u8 [])) rfl rfl ?_
  refine op_nil ?_
  refine ax_then ?_
  refine At.regs (L' := [(0, _), (1, _), (4, _)]) (.cons rfl (.cons rfl (.cons rfl (.nil _)))) ?_
  refine cd_seq ?_
  refine cd_seq ?_
  refine cd_region ?_
  refine st (ev_move rfl) rfl rfl rfl ?_
  refine st (ev_eql_ptr_nil Try.underlying97 rfl rfl) rfl rfl rfl ?_
  refine st (ev_move rfl) rfl rfl rfl ?_
  refine st (ev_move rfl) rfl rfl rfl ?_
  refine st (ev_lss rfl rfl) rfl rfl rfl ?_
  refine st (ev_pick_f rfl rfl) rfl rfl rfl ?_
  refine st (ev_move rfl) rfl rfl rfl ?_
  refine at_eq (i := 12) (v' := .bool false) rfl (by rfl) ?_
  refine st (ev_move rfl) rfl rfl rfl ?_
  refine st (ev_move rfl) rfl rfl rfl ?_
  refine st (ev_nilCheck rfl) rfl rfl rfl ?_
  refine st (ev_fieldAddr (b := _) Try.underlying125 (f := _) rfl ty22 (by decide) rfl) rfl rfl rfl ?_
  refine st (ld_blk1 (h := 0) ty22 rfl rfl rfl rfl) rfl rfl rfl ?_
  refine st (ev_len_rdi (h := 1) Try.underlying22 rfl rfl) rfl rfl rfl ?_
  refine st (ev_gtr rfl rfl) rfl rfl rfl ?_
  refine st (ev_pick_f rfl rfl) rfl rfl rfl ?_
  refine op_nil ?_
  refine ax_then ?_
  refine At.regs (L' := [(0, _), (1, _), (4, _), (20, _)]) (.cons rfl (.cons rfl (.cons rfl (.cons rfl (.nil _))))) ?_
  refine cd_if_t rfl (by omega) ?_
  refine cd_seq ?_
  refine cd_region ?_
  refine st (ev_move rfl) rfl rfl rfl ?_
  refine st_call has93 rfl (fun w1 sw => rbad_any b rv bad w1 (sw.blk_eq (h := 0) rfl)) (mod_blk rfl) rfl rfl (fun _ _ => ?_)
  refine op_nil ?_
  refine ax_then ?_
  refine At.regs (L' := [(0, _), (1, _), (4, _)]) (.cons rfl (.cons rfl (.cons rfl (.nil _)))) ?_
  refine cd_seq ?_
  refine cd_region ?_
  refine st (ev_assign rfl) rfl rfl rfl ?_
  refine at_own_nil 4 5 1 ?_
  refine at_heq (i := 4) (v' := .own (.slice none 0 0) 5 1 (ints .u8 [])) rfl rfl ?_
  refine op_nil ?_
  refine ax_then ?_
  refine At.regs (L' := [(0, _), (1, _), (4, _)]) (.cons rfl (.cons rfl (.cons rfl (.nil _)))) ?_
  refine cd_ret ?_
  refine ax_then_ret ?_
  refine rt_tmp (.inl rfl) Try.results94 rfl ?_
  exact fun w1 sw => ⟨_, trivial, rfl, by rw [show Ky.rawV rv r = Ky.nil0 from if_neg (by omega), show Ky.rawOut r = [] from if_neg (by omega), decide_eq_true hk, Bool.or_true]; exact (sw.gives (N := [(0, _), (4, _)]) (.cons rfl (.cons rfl (.nil _)))).rn2 (by decide) 0 1⟩

theorem rraw_any (b : Nat) (rv : Value) (bad : Bool) (r : List Int) (w : World) (hb : w.heap[b]? = some (.cells (List.toArray [rv, .bool bad]) 125)) (h : Rd w rv 1 (ints .u8 r)) (ho : FE.off b (.sl rv 1 (ints .u8 r))) (hr : r.length ≤ 1000000) : Calls Try.prog 94 #[.pointer (some ⟨b, 0, none⟩), .int .i64 32] w (Post (ι := Value) w [b] (fun _ => True) (fun x => x) (fun x => [(0, .blk (b) (.cells ([Ky.rawV rv r, .bool (bad || decide (r.length < 32))]).toArray 125)), (1, .own (x) 5 1 (ints .u8 (Ky.rawOut r)))])) := by
  by_cases hk : 32 ≤ r.length
  · exact rraw_ok b rv bad r w hb h ho hr hk
  · exact rraw_no b rv bad r w hb h ho hr (by omega)

set_option maxRecDepth 20000 in
set_option maxHeartbeats 1000000 in
theorem rnum_none (b : Nat) (rv : Value) (bad : Bool) (r : List Int) (w : World) (hb : w.heap[b]? = some (.cells (List.toArray [rv, .bool bad]) 125)) (h : Rd w rv 1 (ints .u8 r)) (ho : FE.off b (.sl rv 1 (ints .u8 r))) (hr : r.length ≤ 1000000) (hk : r = []) : Calls Try.prog 67 #[.pointer (some ⟨b, 0, none⟩)] w (Post (ι := Unit) w [b] (fun _ => True) (fun _ => .int .i64 (Ky.numN r)) (fun _ => [(0, .blk (b) (.cells ([Ky.numV rv r, .bool (bad || decide (r = []))]).toArray 125))])) := by
  have hr0 : r.length = 0 := by rw [hk]; rfl
  refine calls_at (vs := [.pointer (some ⟨b, 0, none⟩)]) (X := [b]) (H := [(0, .blk (b) (.cells ([rv, .bool (bad)]).toArray 125))]) (F := [(1, .sl rv 1 (ints .u8 r))]) 55 Try.func67 rfl rfl rfl ((Sat.blkX 0 hb).readb (f := .sl rv 1 (ints .u8 r)) 1 h ho) ?_
  refine cd_seq ?_
  refine cd_region ?_
  refine st (ev_assign rfl) rfl rfl rfl ?_
  refine op_nil ?_
  refine ax_then ?_
  refine At.regs (L' := [(0, _), (2, _)]) (.cons rfl (.cons rfl (.nil _))) ?_
  refine cd_seq ?_
  refine cd_seq ?_
  refine cd_region ?_
  refine st (ev_move rfl) rfl rfl rfl ?_
  refine st (ev_eql_ptr_nil Try.underlying97 rfl rfl) rfl rfl rfl ?_
  refine op_nil ?_
  refine ax_then ?_
  refine At.regs (L' := [(0, _), (2, _), (7, _)]) (.cons rfl (.cons rfl (.cons rfl (.nil _)))) ?_
  refine cd_false rfl ?_
  refine cd_skip ?_
  refine ax_then ?_
  refine At.regs (L' := [(0, _), (2, _)]) (.cons rfl (.cons rfl (.nil _))) ?_
  refine cd_seq ?_
  refine cd_region ?_
  refine st (ev_assign rfl) rfl rfl rfl ?_
  refine op_nil ?_
  refine ax_then ?_
  refine At.regs (L' := [(0, _), (2, _), (3, _)]) (.cons rfl (.cons rfl (.cons rfl (.nil _)))) ?_
  refine cd_seq ?_
  refine cd_seq ?_
  refine cd_region ?_
  refine st (ev_move rfl) rfl rfl rfl ?_
  refine st (ev_nilCheck rfl) rfl rfl rfl ?_
  refine st (ev_fieldAddr (b := _) Try.underlying125 (f := _) rfl ty22 (by decide) rfl) rfl rfl rfl ?_
  refine st (ld_blk1 (h := 0) ty22 rfl rfl rfl rfl) rfl rfl rfl ?_
  refine st (ev_len_rdi (h := 1) Try.underlying22 rfl rfl) rfl rfl rfl ?_
  refine st (ev_move rfl) rfl rfl rfl ?_
  refine op_nil ?_
  refine ax_then ?_
  refine At.regs (L' := [(0, _), (2, _), (3, _), (11, _), (12, _), (13, _)]) (.cons rfl (.cons rfl (.cons rfl (.cons rfl (.cons rfl (.cons rfl (.nil _))))))) ?_
  refine cd_block ?_
  refine cd_loop (ι := Nat) (fun u => True) (fun u => 0)
      (fun u => [(0, .pointer (some ⟨b, 0, none⟩)), (3, .int .u64 0), (11, rv), (12, .int .i64 (r.length : Nat)), (13, .int .i64 0)])
      (fun u => [(0, .blk (b) (.cells ([rv, .bool (bad)]).toArray 125))])
      (fun u => [(1, .sl rv 1 (ints .u8 r))])
      0 (trivial) (.cons rfl (.cons rfl (.cons rfl (.cons rfl (.cons rfl (.nil _)))))) (.cons rfl (.nil _)) (.cons rfl (.nil _)) (fun u hi => ?_)
  refine cd_seq ?_
  refine cd_region ?_
  refine st (ev_lss rfl rfl) rfl rfl rfl ?_
  refine op_nil ?_
  refine ax_then ?_
  refine At.regs (L' := [(0, _), (3, _), (11, _), (12, _), (13, _), (14, _)]) (.cons rfl (.cons rfl (.cons rfl (.cons rfl (.cons rfl (.cons rfl (.nil _))))))) ?_
  refine cd_seq ?_
  refine cd_if_f rfl (by omega) ?_
  refine cd_exit ?_
  refine ax_then_exit ?_
  refine ax_then_exit ?_
  refine ax_block_hit ?_
  refine ax_then ?_
  refine At.regs (L' := [(0, _)]) (.cons rfl (.nil _)) ?_
  refine cd_seq ?_
  refine cd_region ?_
  refine st (ev_move rfl) rfl rfl rfl ?_
  refine st_call has93 rfl (fun w1 sw => rbad_any b rv bad w1 (sw.blk_eq (h := 0) rfl)) (mod_blk rfl) rfl rfl (fun _ _ => ?_)
  refine op_nil ?_
  refine ax_then ?_
  refine At.regs (L' := []) (.nil _) ?_
  refine cd_seq ?_
  refine cd_region ?_
  refine st (ev_assign rfl) rfl rfl rfl ?_
  refine op_nil ?_
  refine ax_then ?_
  refine At.regs (L' := [(2, _)]) (.cons rfl (.nil _)) ?_
  refine cd_ret ?_
  refine rt_tmp (.inl rfl) Try.results67 rfl ?_
  exact fun w1 sw => ⟨(), trivial, by rw [hk]; rfl, by rw [show Ky.numV rv r = Ky.nil0 from if_pos hk, decide_eq_true hk, Bool.or_true]; exact sw.gives (N := [(0, _)]) (.cons rfl (.nil _))⟩

set_option maxRecDepth 20000 in
set_option maxHeartbeats 2000000 in
theorem rnum_one (b : Nat) (rv : Value) (bad : Bool) (r : List Int) (w : World) (hb : w.heap[b]? = some (.cells (List.toArray [rv, .bool bad]) 125)) (h : Rd w rv 1 (ints .u8 r)) (ho : FE.off b (.sl rv 1 (ints .u8 r))) (hr : r.length ≤ 1000000) (c : Nat) (t : List Int) (hk : r = (c : Int) :: t) (hc : c < 128) : Calls Try.prog 67 #[.pointer (some ⟨b, 0, none⟩)] w (Post (ι := Unit) w [b] (fun _ => True) (fun _ => .int .i64 (Ky.numN r)) (fun _ => [(0, .blk (b) (.cells ([Ky.numV rv r, .bool (bad || decide (r = []))]).toArray 125))])) := by
  have hr0 : 1 ≤ r.length := by rw [hk]; simp
  have hg0 : r.getD (Int.toNat 0) 0 = (c : Int) := by rw [hk]; rfl
  have h1 := Ky.and127 c hc
  have h2 := Ky.shl0 c hc
  have h3 := Ky.or0 c hc
  have hne : r ≠ [] := by rw [hk]; simp
  refine calls_at (vs := [.pointer (some ⟨b, 0, none⟩)]) (X := [b]) (H := [(0, .blk (b) (.cells ([rv, .bool (bad)]).toArray 125))]) (F := [(1, .sl rv 1 (ints .u8 r))]) 55 Try.func67 rfl rfl rfl ((Sat.blkX 0 hb).readb (f := .sl rv 1 (ints .u8 r)) 1 h ho) ?_
  refine cd_seq ?_
  refine cd_region ?_
  refine st (ev_assign rfl) rfl rfl rfl ?_
  refine op_nil ?_
  refine ax_then ?_
  refine At.regs (L' := [(0, _), (2, _)]) (.cons rfl (.cons rfl (.nil _))) ?_
  refine cd_seq ?_
  refine cd_seq ?_
  refine cd_region ?_
  refine st (ev_move rfl) rfl rfl rfl ?_
  refine st (ev_eql_ptr_nil Try.underlying97 rfl rfl) rfl rfl rfl ?_
  refine op_nil ?_
  refine ax_then ?_
  refine At.regs (L' := [(0, _), (2, _), (7, _)]) (.cons rfl (.cons rfl (.cons rfl (.nil _)))) ?_
  refine cd_false rfl ?_
  refine cd_skip ?_
  refine ax_then ?_
  refine At.regs (L' := [(0, _), (2, _)]) (.cons rfl (.cons rfl (.nil _))) ?_
  refine cd_seq ?_
  refine cd_region ?_
  refine st (ev_assign rfl) rfl rfl rfl ?_
  refine op_nil ?_
  refine ax_then ?_
  refine At.regs (L' := [(0, _), (2, _), (3, _)]) (.cons rfl (.cons rfl (.cons rfl (.nil _)))) ?_
  refine cd_seq ?_
  refine cd_seq ?_
  refine cd_region ?_
  refine st (ev_move rfl) rfl rfl rfl ?_
  refine st (ev_nilCheck rfl) rfl rfl rfl ?_
  refine st (ev_fieldAddr (b := _) Try.underlying125 (f := _) rfl ty22 (by decide) rfl) rfl rfl rfl ?_
  refine st (ld_blk1 (h := 0) ty22 rfl rfl rfl rfl) rfl rfl rfl ?_
  refine st (ev_len_rdi (h := 1) Try.underlying22 rfl rfl) rfl rfl rfl ?_
  refine st (ev_move rfl) rfl rfl rfl ?_
  refine op_nil ?_
  refine ax_then ?_
  refine At.regs (L' := [(0, _), (2, _), (3, _), (11, _), (12, _), (13, _)]) (.cons rfl (.cons rfl (.cons rfl (.cons rfl (.cons rfl (.cons rfl (.nil _))))))) ?_
  refine cd_block ?_
  refine cd_loop (ι := Nat) (fun u => True) (fun u => 0)
      (fun u => [(0, .pointer (some ⟨b, 0, none⟩)), (3, .int .u64 0), (11, rv), (12, .int .i64 (r.length : Nat)), (13, .int .i64 0)])
      (fun u => [(0, .blk (b) (.cells ([rv, .bool (bad)]).toArray 125))])
      (fun u => [(1, .sl rv 1 (ints .u8 r))])
      0 (trivial) (.cons rfl (.cons rfl (.cons rfl (.cons rfl (.cons rfl (.nil _)))))) (.cons rfl (.nil _)) (.cons rfl (.nil _)) (fun u hi => ?_)
  refine cd_seq ?_
  refine cd_region ?_
  refine st (ev_lss rfl rfl) rfl rfl rfl ?_
  refine op_nil ?_
  refine ax_then ?_
  refine At.regs (L' := [(0, _), (3, _), (11, _), (12, _), (13, _), (14, _)]) (.cons rfl (.cons rfl (.cons rfl (.cons rfl (.cons rfl (.cons rfl (.nil _))))))) ?_
  refine cd_seq ?_
  refine cd_if_t rfl (by omega) ?_
  refine cd_skip ?_
  refine ax_then ?_
  refine At.regs (L' := [(0, _), (3, _), (11, _), (12, _), (13, _), (14, _)]) (.cons rfl (.cons rfl (.cons rfl (.cons rfl (.cons rfl (.cons rfl (.nil _))))))) ?_
  refine cd_seq ?_
  refine cd_block ?_
  refine cd_seq ?_
  refine cd_region ?_
  refine st (ev_move rfl) rfl rfl rfl ?_
  refine st (ev_indexAddr_rdi (h := 1) Try.underlying22 ty5 rfl rfl rfl (by omega) (by first | omega | (simp only [List.length_append, List.length_cons, List.length_nil, List.length_set, List.length_replicate, List.length_take, List.length_drop, ints_length, wr_length, sha_len, node_len, recov_len, Ky.named_len, Ky.keyPub_len, Ky.hashOf_len] <;> omega))) rfl rfl rfl ?_
  refine st (ld_rd1 (h := 1) ty5 rfl rfl rfl (ints_get _ _ _ (by first | omega | (simp only [List.length_append, List.length_cons, List.length_nil, List.length_set, List.length_replicate, List.length_take, List.length_drop, ints_length, wr_length, sha_len, node_len, recov_len, Ky.named_len, Ky.keyPub_len, Ky.hashOf_len] <;> omega) | rfl))) rfl rfl rfl ?_
  refine at_eq (i := 17) (v' := .int .u8 (c : Int)) rfl (by rw [hg0]) ?_
  refine st (ev_assign rfl) rfl rfl rfl ?_
  refine st (ev_assign rfl) rfl rfl rfl ?_
  refine op_nil ?_
  refine ax_then ?_
  refine At.regs (L' := [(0, _), (3, _), (4, _), (5, _), (11, _), (12, _), (13, _), (14, _), (15, _), (16, _), (17, _)]) (.cons rfl (.cons rfl (.cons rfl (.cons rfl (.cons rfl (.cons rfl (.cons rfl (.cons rfl (.cons rfl (.cons rfl (.cons rfl (.nil _)))))))))))) ?_
  refine cd_seq ?_
  refine cd_seq ?_
  refine cd_region ?_
  refine st (ev_move rfl) rfl rfl rfl ?_
  refine st (ev_geq rfl rfl) rfl rfl rfl ?_
  refine st (ev_move rfl) rfl rfl rfl ?_
  refine at_eq (i := 20) (v' := .bool false) rfl (by rfl) ?_
  refine st (ev_move rfl) rfl rfl rfl ?_
  refine st (ev_gtr rfl rfl) rfl rfl rfl ?_
  refine st (ev_move rfl) rfl rfl rfl ?_
  refine at_eq (i := 23) (v' := .bool false) rfl (by rfl) ?_
  refine st_skip rfl rfl rfl ?_
  refine st_skip rfl rfl rfl ?_
  refine st (ev_pick_f rfl rfl) rfl rfl rfl ?_
  refine st (ev_pick_f rfl rfl) rfl rfl rfl ?_
  refine op_nil ?_
  refine ax_then ?_
  refine At.regs (L' := [(0, _), (3, _), (4, _), (5, _), (11, _), (12, _), (13, _), (14, _), (15, _), (16, _), (17, _), (18, _), (19, _), (20, _), (21, _), (22, _), (23, _), (24, _), (25, _), (26, _), (27, _)]) (.cons rfl (.cons rfl (.cons rfl (.cons rfl (.cons rfl (.cons rfl (.cons rfl (.cons rfl (.cons rfl (.cons rfl (.cons rfl (.cons rfl (.cons rfl (.cons rfl (.cons rfl (.cons rfl (.cons rfl (.cons rfl (.cons rfl (.cons rfl (.cons rfl (.nil _)))))))))))))))))))))) ?_
  refine cd_false rfl ?_
  refine cd_skip ?_
  refine ax_then ?_
  refine At.regs (L' := [(0, _), (3, _), (4, _), (5, _), (11, _), (12, _), (13, _), (14, _), (15, _), (16, _), (17, _), (18, _), (19, _), (20, _), (21, _), (22, _), (23, _), (24, _), (25, _), (26, _), (27, _)]) (.cons rfl (.cons rfl (.cons rfl (.cons rfl (.cons rfl (.cons rfl (.cons rfl (.cons rfl (.cons rfl (.cons rfl (.cons rfl (.cons rfl (.cons rfl (.cons rfl (.cons rfl (.cons rfl (.cons rfl (.cons rfl (.cons rfl (.cons rfl (.cons rfl (.nil _)))))))))))))))))))))) ?_
  refine cd_seq ?_
  refine cd_region ?_
  refine st (ev_move rfl) rfl rfl rfl ?_
  refine st (ev_move rfl) rfl rfl rfl ?_
  refine st (ev_and rfl rfl) rfl rfl rfl ?_
  refine at_eq (i := 30) (v' := .int .u8 (c : Int)) rfl (by rw [h1]) ?_
  refine st (ev_convu64 Try.underlying5 Try.underlying121 rfl (by omega) (by omega)) rfl rfl rfl ?_
  refine st (ev_move rfl) rfl rfl rfl ?_
  refine st (ev_mul64 rfl rfl (by omega) (by omega)) rfl rfl rfl ?_
  refine st (ev_shl rfl rfl (by omega)) rfl rfl rfl ?_
  refine at_eq (i := 34) (v' := .int .u64 (c : Int)) rfl (by rw [show (7 * 0 : Int) = 0 from rfl, h2]) ?_
  refine st (ev_or rfl rfl) rfl rfl rfl ?_
  refine at_eq (i := 35) (v' := .int .u64 (c : Int)) rfl (by rw [h3]) ?_
  refine st (ev_assign rfl) rfl rfl rfl ?_
  refine op_nil ?_
  refine ax_then ?_
  refine At.regs (L' := [(0, _), (3, _), (4, _), (5, _), (11, _), (12, _), (13, _), (14, _), (15, _), (16, _), (17, _), (18, _), (19, _), (20, _), (21, _), (22, _), (23, _), (24, _), (25, _), (26, _), (27, _), (28, _), (29, _), (30, _), (31, _), (32, _), (33, _), (34, _), (35, _)]) (.cons rfl (.cons rfl (.cons rfl (.cons rfl (.cons rfl (.cons rfl (.cons rfl (.cons rfl (.cons rfl (.cons rfl (.cons rfl (.cons rfl (.cons rfl (.cons rfl (.cons rfl (.cons rfl (.cons rfl (.cons rfl (.cons rfl (.cons rfl (.cons rfl (.cons rfl (.cons rfl (.cons rfl (.cons rfl (.cons rfl (.cons rfl (.cons rfl (.cons rfl (.nil _)))))))))))))))))))))))))))))) ?_
  refine cd_seq ?_
  refine cd_region ?_
  refine st (ev_move rfl) rfl rfl rfl ?_
  refine st (ev_lss rfl rfl) rfl rfl rfl ?_
  refine op_nil ?_
  refine ax_then ?_
  refine At.regs (L' := [(0, _), (3, _), (4, _), (5, _), (11, _), (12, _), (13, _), (14, _), (15, _), (16, _), (17, _), (18, _), (19, _), (20, _), (21, _), (22, _), (23, _), (24, _), (25, _), (26, _), (27, _), (28, _), (29, _), (30, _), (31, _), (32, _), (33, _), (34, _), (35, _), (36, _), (37, _)]) (.cons rfl (.cons rfl (.cons rfl (.cons rfl (.cons rfl (.cons rfl (.cons rfl (.cons rfl (.cons rfl (.cons rfl (.cons rfl (.cons rfl (.cons rfl (.cons rfl (.cons rfl (.cons rfl (.cons rfl (.cons rfl (.cons rfl (.cons rfl (.cons rfl (.cons rfl (.cons rfl (.cons rfl (.cons rfl (.cons rfl (.cons rfl (.cons rfl (.cons rfl (.cons rfl (.cons rfl (.nil _)))))))))))))))))))))))))))))))) ?_
  refine cd_if_t rfl (by omega) ?_
  refine cd_seq ?_
  refine cd_seq ?_
  refine cd_region ?_
  refine st (ev_move rfl) rfl rfl rfl ?_
  refine st (ev_gtr rfl rfl) rfl rfl rfl ?_
  refine op_nil ?_
  refine ax_then ?_
  refine At.regs (L' := [(0, _), (3, _), (4, _), (5, _), (11, _), (12, _), (13, _), (14, _), (15, _), (16, _), (17, _), (18, _), (19, _), (20, _), (21, _), (22, _), (23, _), (24, _), (25, _), (26, _), (27, _), (28, _), (29, _), (30, _), (31, _), (32, _), (33, _), (34, _), (35, _), (36, _), (37, _), (38, _), (39, _)]) (.cons rfl (.cons rfl (.cons rfl (.cons rfl (.cons rfl (.cons rfl (.cons rfl (.cons rfl (.cons rfl (.cons rfl (.cons rfl (.cons rfl (.cons rfl (.cons rfl (.cons rfl (.cons rfl (.cons rfl (.cons rfl (.cons rfl (.cons rfl (.cons rfl (.cons rfl (.cons rfl (.cons rfl (.cons rfl (.cons rfl (.cons rfl (.cons rfl (.cons rfl (.cons rfl (.cons rfl (.cons rfl (.cons rfl (.nil _)))))))))))))))))))))))))))))))))) ?_
  refine cd_if_f rfl (by omega) ?_
  refine cd_skip ?_
  refine ax_then ?_
  refine At.regs (L' := [(0, _), (3, _), (4, _), (5, _), (11, _), (12, _), (13, _), (14, _), (15, _), (16, _), (17, _), (18, _), (19, _), (20, _), (21, _), (22, _), (23, _), (24, _), (25, _), (26, _), (27, _), (28, _), (29, _), (30, _), (31, _), (32, _), (33, _), (34, _), (35, _), (36, _), (37, _), (38, _), (39, _)]) (.cons rfl (.cons rfl (.cons rfl (.cons rfl (.cons rfl (.cons rfl (.cons rfl (.cons rfl (.cons rfl (.cons rfl (.cons rfl (.cons rfl (.cons rfl (.cons rfl (.cons rfl (.cons rfl (.cons rfl (.cons rfl (.cons rfl (.cons rfl (.cons rfl (.cons rfl (.cons rfl (.cons rfl (.cons rfl (.cons rfl (.cons rfl (.cons rfl (.cons rfl (.cons rfl (.cons rfl (.cons rfl (.cons rfl (.nil _)))))))))))))))))))))))))))))))))) ?_
  refine cd_seq ?_
  refine cd_region ?_
  refine st (ev_move rfl) rfl rfl rfl ?_
  refine st (ev_move rfl) rfl rfl rfl ?_
  refine st (ev_nilCheck rfl) rfl rfl rfl ?_
  refine st (ev_fieldAddr (b := _) Try.underlying125 (f := _) rfl ty22 (by decide) rfl) rfl rfl rfl ?_
  refine st (ld_blk1 (h := 0) ty22 rfl rfl rfl rfl) rfl rfl rfl ?_
  refine st (ev_move rfl) rfl rfl rfl ?_
  refine st (ev_add64 rfl rfl (by omega) (by omega)) rfl rfl rfl ?_
  refine st (ev_slicei_lo Try.underlying22 ty5 rfl rfl (fun w1 sw => sw.sl_rd (h := 1) rfl) (by omega) (by first | omega | (simp only [List.length_append, List.length_cons, List.length_nil, List.length_set, List.length_replicate, List.length_take, List.length_drop, ints_length, wr_length, sha_len, node_len, recov_len, Ky.named_len, Ky.keyPub_len, Ky.hashOf_len] <;> omega))) rfl rfl rfl ?_
  refine at_eq (i := 47) (v' := cutAt 1 rv 1 r.length) rfl rfl ?_
  refine st (ev_nilCheck rfl) rfl rfl rfl ?_
  refine st (ev_fieldAddr (b := _) Try.underlying125 (f := _) rfl ty22 (by decide) rfl) rfl rfl rfl ?_
  refine st_store1 0 ty22 rfl rfl rfl (rd_shape (h.cuti (lo := 1) (hi := r.length) hr0 (Nat.le_refl _))).2 (show 0 < 2 from by decide) rfl ?_
  refine at_heq (i := 0) (v' := .blk (b) (.cells ([Ky.numV rv r, .bool (bad || decide (r = []))]).toArray 125)) rfl (by rw [show Ky.numV rv r = cutAt 1 rv 1 r.length from if_neg hne, decide_eq_false hne, Bool.or_false]; rfl) ?_
  refine op_nil ?_
  refine ax_then ?_
  refine At.regs (L' := [(0, _), (3, _), (4, _), (5, _), (11, _), (12, _), (13, _), (14, _), (15, _), (16, _), (17, _), (18, _), (19, _), (20, _), (21, _), (22, _), (23, _), (24, _), (25, _), (26, _), (27, _), (28, _), (29, _), (30, _), (31, _), (32, _), (33, _), (34, _), (35, _), (36, _), (37, _), (38, _), (39, _), (40, _), (41, _), (42, _), (43, _), (44, _), (45, _), (46, _), (47, _), (48, _), (49, _)]) (.cons rfl (.cons rfl (.cons rfl (.cons rfl (.cons rfl (.cons rfl (.cons rfl (.cons rfl (.cons rfl (.cons rfl (.cons rfl (.cons rfl (.cons rfl (.cons rfl (.cons rfl (.cons rfl (.cons rfl (.cons rfl (.cons rfl (.cons rfl (.cons rfl (.cons rfl (.cons rfl (.cons rfl (.cons rfl (.cons rfl (.cons rfl (.cons rfl (.cons rfl (.cons rfl (.cons rfl (.cons rfl (.cons rfl (.cons rfl (.cons rfl (.cons rfl (.cons rfl (.cons rfl (.cons rfl (.cons rfl (.cons rfl (.cons rfl (.cons rfl (.nil _)))))))))))))))))))))))))))))))))))))))))))) ?_
  refine cd_seq ?_
  refine cd_region ?_
  refine st (ev_move rfl) rfl rfl rfl ?_
  refine st (ev_conv64 Try.underlying121 Try.underlying3 rfl (by omega) (by omega)) rfl rfl rfl ?_
  refine st (ev_assign rfl) rfl rfl rfl ?_
  refine op_nil ?_
  refine ax_then ?_
  refine At.regs (L' := [(0, _), (2, _), (3, _), (4, _), (5, _), (11, _), (12, _), (13, _), (14, _), (15, _), (16, _), (17, _), (18, _), (19, _), (20, _), (21, _), (22, _), (23, _), (24, _), (25, _), (26, _), (27, _), (28, _), (29, _), (30, _), (31, _), (32, _), (33, _), (34, _), (35, _), (36, _), (37, _), (38, _), (39, _), (40, _), (41, _), (42, _), (43, _), (44, _), (45, _), (46, _), (47, _), (48, _), (49, _), (50, _), (51, _)]) (.cons rfl (.cons rfl (.cons rfl (.cons rfl (.cons rfl (.cons rfl (.cons rfl (.cons rfl (.cons rfl (.cons rfl (.cons rfl (.cons rfl (.cons rfl (.cons rfl (.cons rfl (.cons rfl (.cons rfl (.cons rfl (.cons rfl (.cons rfl (.cons rfl (.cons rfl (.cons rfl (.cons rfl (.cons rfl (.cons rfl (.cons rfl (.cons rfl (.cons rfl (.cons rfl (.cons rfl (.cons rfl (.cons rfl (.cons rfl (.cons rfl (.cons rfl (.cons rfl (.cons rfl (.cons rfl (.cons rfl (.cons rfl (.cons rfl (.cons rfl (.cons rfl (.cons rfl (.cons rfl (.nil _))))))))))))))))))))))))))))))))))))))))))))))) ?_
  refine cd_ret ?_
  refine ax_block_ret ?_
  refine ax_then_ret ?_
  refine ax_then_ret ?_
  refine ax_block_ret ?_
  refine ax_then_ret ?_
  refine rt_tmp (.inl rfl) Try.results67 rfl ?_
  exact fun w1 sw => ⟨(), trivial, by rw [hk]; rfl, sw.gives (N := [(0, _)]) (.cons rfl (.nil _))⟩

theorem rnum_any (b : Nat) (rv : Value) (bad : Bool) (r : List Int) (w : World) (hb : w.heap[b]? = some (.cells (List.toArray [rv, .bool bad]) 125)) (h : Rd w rv 1 (ints .u8 r)) (ho : FE.off b (.sl rv 1 (ints .u8 r))) (hr : r.length ≤ 1000000) (hn : ∀ c t, r = c :: t → 0 ≤ c ∧ c < 128) : Calls Try.prog 67 #[.pointer (some ⟨b, 0, none⟩)] w (Post (ι := Unit) w [b] (fun _ => True) (fun _ => .int .i64 (Ky.numN r)) (fun _ => [(0, .blk (b) (.cells ([Ky.numV rv r, .bool (bad || decide (r = []))]).toArray 125))])) := by
  match r, hn, h, ho, hr with
  | [], _, h, ho, hr => exact rnum_none b rv bad [] w hb h ho hr rfl
  | c :: t, hn, h, ho, hr =>
    obtain ⟨k, rfl⟩ := Int.eq_ofNat_of_zero_le (hn c t rfl).1
    exact rnum_one b rv bad _ w hb h ho hr k t rfl (by have := (hn _ t rfl).2; omega)

set_option maxRecDepth 20000 in
set_option maxHeartbeats 1000000 in
theorem rgood_any (b : Nat) (rv : Value) (bad : Bool) (w : World) (h : Lies w b 0 [rv, .bool bad]) : Calls Try.prog 95 #[.pointer (some ⟨b, 0, none⟩)] w (PostV w (.bool (!bad))) := by
  refine calls_at (vs := [.pointer (some ⟨b, 0, none⟩)]) (X := []) (H := []) (F := [(21, .mem b 0 [rv, .bool bad])]) 12 Try.func95 rfl rfl rfl ((Sat.start0 w).read 21 h off_nil) ?_
  refine cd_seq ?_
  refine cd_region ?_
  refine st (ev_assign rfl) rfl rfl rfl ?_
  refine op_nil ?_
  refine ax_then ?_
  refine At.regs (L' := [(0, _), (2, _)]) (.cons rfl (.cons rfl (.nil _))) ?_
  refine cd_seq ?_
  refine cd_region ?_
  refine st (ev_move rfl) rfl rfl rfl ?_
  refine st (ev_neq_ptr_nil Try.underlying97 rfl rfl) rfl rfl rfl ?_
  refine st (ev_move rfl) rfl rfl rfl ?_
  refine st (ev_move rfl) rfl rfl rfl ?_
  refine st (ev_nilCheck rfl) rfl rfl rfl ?_
  refine st (ev_fieldAddr (b := _) Try.underlying125 (f := _) rfl ty4 (by decide) rfl) rfl rfl rfl ?_
  refine st (ld_mem1 (h := 21) ty4 rfl rfl rfl (Nat.zero_add _).symm rfl) rfl rfl rfl ?_
  refine st (ev_not rfl) rfl rfl rfl ?_
  refine st (ev_pick_t rfl rfl) rfl rfl rfl ?_
  refine st (ev_assign rfl) rfl rfl rfl ?_
  refine op_nil ?_
  refine ax_then ?_
  refine At.regs (L' := [(2, _)]) (.cons rfl (.nil _)) ?_
  refine cd_ret ?_
  refine rt_tmp (.inl rfl) Try.results95 rfl ?_
  exact fun w1 sw => ⟨rfl, sw.gives (.nil _)⟩

set_option maxRecDepth 20000 in
set_option maxHeartbeats 1000000 in
theorem rwhole_any (b : Nat) (rv : Value) (bad : Bool) (r : List Int) (w : World) (h : Lies w b 0 [rv, .bool bad]) (h' : Rd w rv 1 (ints .u8 r)) : Calls Try.prog 69 #[.pointer (some ⟨b, 0, none⟩)] w (PostV w (.bool (!bad && decide (r.length = 0)))) := by
  refine calls_at (vs := [.pointer (some ⟨b, 0, none⟩)]) (X := []) (H := []) (F := [(21, .mem b 0 [rv, .bool bad]), (20, .sl (rv) 1 (ints .u8 (r)))]) 13 Try.func69 rfl rfl rfl ((Sat.rd0 20 h').read 21 h off_nil) ?_
  refine cd_seq ?_
  refine cd_region ?_
  refine st (ev_assign rfl) rfl rfl rfl ?_
  refine op_nil ?_
  refine ax_then ?_
  refine At.regs (L' := [(0, _), (2, _)]) (.cons rfl (.cons rfl (.nil _))) ?_
  refine cd_seq ?_
  refine cd_region ?_
  refine st (ev_move rfl) rfl rfl rfl ?_
  refine st_callv has95 rfl (fun w1 sw => rgood_any b rv bad w1 (sw.rd 21 _ rfl)) rfl rfl ?_
  refine st (ev_move rfl) rfl rfl rfl ?_
  refine at_split (i := 5) rfl (fun hg5 => ?_) (fun hg5 => ?_)
  ·
    refine st (ev_move rfl) rfl rfl rfl ?_
    refine st (ev_nilCheck rfl) rfl rfl rfl ?_
    refine st (ev_fieldAddr (b := _) Try.underlying125 (f := _) rfl ty22 (by decide) rfl) rfl rfl rfl ?_
    refine st (ld_mem1 (h := 21) ty22 rfl rfl rfl (Nat.zero_add _).symm rfl) rfl rfl rfl ?_
    refine st (ev_len_rdi (h := 20) Try.underlying22 rfl rfl) rfl rfl rfl ?_
    refine st (ev_eql rfl rfl) rfl rfl rfl ?_
    refine st (ev_pick_t rfl rfl) rfl rfl rfl ?_
    refine st (ev_assign rfl) rfl rfl rfl ?_
    refine op_nil ?_
    refine ax_then ?_
    refine At.regs (L' := [(2, _)]) (.cons rfl (.nil _)) ?_
    refine cd_ret ?_
    refine rt_tmp (.inl rfl) Try.results69 rfl ?_
    exact fun w1 sw => ⟨congrArg (fun b => Ending.returned (Value.bool b)) (by rw [hg5]; first | rfl | (rw [Bool.true_and]; exact decide_eq_decide.2 (by omega))), sw.gives (.nil _)⟩
  ·
    refine st_skip rfl rfl rfl ?_
    refine st_skip rfl rfl rfl ?_
    refine st_skip rfl rfl rfl ?_
    refine st_skip rfl rfl rfl ?_
    refine st_skip rfl rfl rfl ?_
    refine st_skip rfl rfl rfl ?_
    refine st (ev_pick_f rfl rfl) rfl rfl rfl ?_
    refine st (ev_assign rfl) rfl rfl rfl ?_
    refine op_nil ?_
    refine ax_then ?_
    refine At.regs (L' := [(2, _)]) (.cons rfl (.nil _)) ?_
    refine cd_ret ?_
    refine rt_tmp (.inl rfl) Try.results69 rfl ?_
    exact fun w1 sw => ⟨congrArg (fun b => Ending.returned (Value.bool b)) (by rw [hg5]; first | rfl | (rw [Bool.true_and]; exact decide_eq_decide.2 (by omega))), sw.gives (.nil _)⟩

set_option maxRecDepth 20000 in
set_option maxHeartbeats 2000000 in
theorem khashes_any (b : Nat) (rv : Value) (bad : Bool) (r : List Int) (n : Nat) (w : World) (hb : w.heap[b]? = some (.cells (List.toArray [rv, .bool bad]) 125)) (h : Rd w rv 1 (ints .u8 r)) (ho : FE.off b (.sl rv 1 (ints .u8 r))) (hr : r.length ≤ 1000000) (hn : n ≤ 1000) : Calls Try.prog 68 #[.pointer (some ⟨b, 0, none⟩), .int .i64 (n : Int)] w (Post (ι := Value) w [b] (fun _ => True) (fun x => x) (fun x => [(0, .blk (b) (.cells ([Ky.valS rv r n, .bool (Ky.badS bad r n)]).toArray 125)), (1, .own (x) 39 32 (flat (Ky.hashS r n)))])) := by
  refine calls_at (vs := [.pointer (some ⟨b, 0, none⟩), .int .i64 (n : Int)]) (X := [b]) (H := [(0, .blk (b) (.cells ([rv, .bool (bad)]).toArray 125))]) (F := [(1, .sl rv 1 (ints .u8 r))]) 20 Try.func68 rfl rfl rfl ((Sat.blkX 0 hb).readb (f := .sl rv 1 (ints .u8 r)) 1 h ho) ?_
  refine cd_seq ?_
  refine cd_region ?_
  refine st (ev_assign rfl) rfl rfl rfl ?_
  refine at_own_nil 4 39 32 ?_
  refine at_heq (i := 4) (v' := .own (.slice none 0 0) 39 32 (flat [])) rfl rfl ?_
  have hu4 := H32.nil
  refine op_nil ?_
  refine ax_then ?_
  refine At.regs (L' := [(0, _), (1, _), (4, _)]) (.cons rfl (.cons rfl (.cons rfl (.nil _)))) ?_
  refine cd_seq ?_
  refine cd_region ?_
  refine st (ev_assign rfl) rfl rfl rfl ?_
  refine at_own_nil 5 39 32 ?_
  refine at_heq (i := 5) (v' := .own (.slice none 0 0) 39 32 (flat [])) rfl rfl ?_
  have hu5 := H32.nil
  refine op_nil ?_
  refine ax_then ?_
  refine At.regs (L' := [(0, _), (1, _), (4, _), (5, _)]) (.cons rfl (.cons rfl (.cons rfl (.cons rfl (.nil _))))) ?_
  refine cd_seq ?_
  refine cd_seq ?_
  refine cd_region ?_
  refine st (ev_move rfl) rfl rfl rfl ?_
  refine st (ev_move rfl) rfl rfl rfl ?_
  refine op_nil ?_
  refine ax_then ?_
  refine At.regs (L' := [(0, _), (4, _), (5, _), (7, _), (8, _)]) (.cons rfl (.cons rfl (.cons rfl (.cons rfl (.cons rfl (.nil _)))))) ?_
  refine cd_block ?_
  refine cd_loop (ι := Nat × Value) (fun x => x.1 ≤ n) (fun x => n - x.1)
      (fun x => [(0, .pointer (some ⟨b, 0, none⟩)), (5, x.2), (7, .int .i64 (n : Int)), (8, .int .i64 (x.1 : Int))])
      (fun x => [(0, .blk (b) (.cells ([Ky.valS rv r x.1, .bool (Ky.badS bad r x.1)]).toArray 125)), (5, .own (x.2) 39 32 (flat (Ky.hashS r x.1)))])
      (fun x => [(1, .sl (Ky.valS rv r x.1) 1 (ints .u8 (Ky.restS r x.1)))])
      (0, .slice none 0 0) (by omega) (.cons rfl (.cons rfl (.cons rfl (.cons rfl (.nil _))))) (.cons rfl (.cons rfl (.nil _))) (.cons rfl (.nil _)) (fun x hi => ?_)
  have hu5 := Ky.hashS_h32 r x.1
  have hn5 := Ky.hashS_len r x.1
  have hrl := Ky.restS_le r x.1
  have hro := Ky.rawOut_len (Ky.restS r x.1)
  have hhl := Ky.hashOf_len (Ky.restS r x.1)
  refine cd_seq ?_
  refine cd_region ?_
  refine st (ev_lss rfl rfl) rfl rfl rfl ?_
  refine op_nil ?_
  refine ax_then ?_
  refine At.regs (L' := [(0, _), (5, _), (7, _), (8, _), (9, _)]) (.cons rfl (.cons rfl (.cons rfl (.cons rfl (.cons rfl (.nil _)))))) ?_
  refine cd_seq ?_
  refine cd_if rfl (fun hc9 => ?_) (fun hc9 => ?_)
  ·
    refine cd_skip ?_
    refine ax_then ?_
    refine At.regs (L' := [(0, _), (5, _), (7, _), (8, _), (9, _)]) (.cons rfl (.cons rfl (.cons rfl (.cons rfl (.cons rfl (.nil _)))))) ?_
    refine cd_seq ?_
    refine cd_block ?_
    refine cd_seq ?_
    refine cd_region ?_
    refine st_alloc (h := 6) ty39 rfl rfl rfl (fun b6 => ?_)
    refine op_nil ?_
    refine ax_then ?_
    refine At.regs (L' := [(0, _), (5, _), (6, _), (7, _), (8, _), (9, _)]) (.cons rfl (.cons rfl (.cons rfl (.cons rfl (.cons rfl (.cons rfl (.nil _))))))) ?_
    refine cd_seq ?_
    refine cd_mix hmix ?_
    refine mx (i := 0) rfl (by decide +kernel) (by decide +kernel) (by decide +kernel) rfl (fun w0 => ev_slice_arr_all Try.underlying39 ty5 rfl) rfl rfl (Sub.refl _) ?_
    refine mx (i := 1) rfl (by decide +kernel) (by decide +kernel) (by decide +kernel) rfl (fun w0 => ev_move rfl) rfl rfl (Sub.refl _) ?_
    refine mx_one (i := 2) (by decide +kernel) (Sub.refl _) ?_
    refine wo (i := 2) rfl ?_
    refine st_call has94 rfl (fun w1 sw => rn2 0 12 (rraw_any b (Ky.valS rv r x.1) (Ky.badS bad r x.1) (Ky.restS r x.1) w1 (sw.blk_eq (h := 0) rfl) (sw.sl_rd (h := 1) rfl) (sw.off 1 _ 0 _ rfl rfl _ (by simp [Ent.ids])) (by omega))) (mod_blk2 rfl) rfl rfl (fun v12 _ => ?_)
    refine op_nil ?_
    refine ax_then ?_
    refine mx_one (i := 3) (by decide +kernel) (Sub.refl _) ?_
    refine wo (i := 3) rfl ?_
    refine st_copy (n := (Ky.rawOut (Ky.restS r x.1)).length) 6 Try.underlying22 ty5 rfl rfl rfl (fun w1 sw => sw.own_rd (h := 12) rfl) (by decide) (by rw [ints_length, Nat.mul_one]) (by rw [ints_length, List.length_replicate]; decide) (ints_one _ _) rfl rfl ?_
    refine at_heq (i := 6) (v' := .blk b6 (.cells (ints .u8 (Ky.hashOf (Ky.restS r x.1))).toArray 39)) rfl (by rw [Ky.hash_copy]) ?_
    refine op_nil ?_
    refine ax_then ?_
    refine mx_done (by decide +kernel) (Sub.refl _) ?_
    refine ax_then ?_
    refine At.regs (L' := [(0, _), (5, _), (6, _), (7, _), (8, _), (9, _), (10, _), (11, _), (12, _)]) (.cons rfl (.cons rfl (.cons rfl (.cons rfl (.cons rfl (.cons rfl (.cons rfl (.cons rfl (.cons rfl (.nil _)))))))))) ?_
    refine at_fmap (h := 1) 1 rfl (fun w1 hh => Ky.rawV_rd hh) (Ky.rawV_blk _ _) Ky.raw_nil ?_
    refine cd_region ?_
    refine st (ev_move rfl) rfl rfl rfl ?_
    refine st (ld_blk_all (h := 6) ty39 rfl rfl rfl (by first | omega | (simp only [List.length_append, List.length_cons, List.length_nil, List.length_set, List.length_replicate, List.length_take, List.length_drop, ints_length, wr_length, sha_len, node_len, recov_len, Ky.named_len, Ky.keyPub_len, Ky.hashOf_len] <;> omega) | rfl)) rfl rfl rfl ?_
    refine st_bsh1 (h := 16) Try.underlying26 ty39 rfl (by first | assumption | omega) rfl rfl (fun b16 hu16 => ?_)
    refine st_appendh (h := 5) Try.underlying26 Try.underlying26 ty39 rfl rfl rfl rfl (fun w1 sw => sw.own_rd (h := 16) rfl) (by assumption) (by assumption) (by first | omega | (simp only [List.length_append, List.length_cons, List.length_nil, List.length_set, List.length_replicate, List.length_take, List.length_drop, ints_length, wr_length, sha_len, node_len, recov_len, Ky.named_len, Ky.keyPub_len, Ky.hashOf_len] <;> omega)) (by decide) rfl rfl (fun v17 hu17 => ?_)
    refine st (ev_assign rfl) rfl rfl rfl ?_
    refine op_nil ?_
    refine ax_block ?_
    refine ax_then ?_
    refine At.regs (L' := [(0, _), (5, _), (6, _), (7, _), (8, _), (9, _), (10, _), (11, _), (12, _), (14, _), (15, _), (16, _), (17, _)]) (.cons rfl (.cons rfl (.cons rfl (.cons rfl (.cons rfl (.cons rfl (.cons rfl (.cons rfl (.cons rfl (.cons rfl (.cons rfl (.cons rfl (.cons rfl (.nil _)))))))))))))) ?_
    refine cd_region ?_
    refine st (ev_add64 rfl rfl (by omega) (by omega)) rfl rfl rfl ?_
    refine st (ev_move rfl) rfl rfl rfl ?_
    refine op_nil ?_
    refine ax_heq (i := 5) (v' := .own (v17) 39 32 (flat (Ky.hashS r (x.1 + 1)))) rfl rfl ?_
    exact at_again ((x.1 + 1, v17)) (by show x.1 + 1 ≤ n; omega) (by omega) (.cons rfl (.cons rfl (.cons rfl (.cons rfl (.nil _))))) (.cons rfl (.cons rfl (.nil _))) (.cons rfl (.nil _))
  ·
    obtain ⟨j, v⟩ := x
    dsimp only at hi hc9 ⊢
    obtain rfl : j = n := by omega
    refine cd_exit ?_
    refine ax_then_exit ?_
    refine ax_then_exit ?_
    refine ax_block_hit ?_
    refine ax_then ?_
    refine At.regs (L' := [(5, _)]) (.cons rfl (.nil _)) ?_
    refine cd_seq ?_
    refine cd_region ?_
    refine st (ev_move rfl) rfl rfl rfl ?_
    refine st (ev_assign rfl) rfl rfl rfl ?_
    refine op_nil ?_
    refine ax_then ?_
    refine At.regs (L' := [(4, _)]) (.cons rfl (.nil _)) ?_
    refine cd_ret ?_
    refine rt_tmp (.inl rfl) Try.results68 rfl ?_
    exact fun w1 sw => ⟨v, trivial, rfl, (sw.gives (N := [(0, _), (5, _)]) (.cons rfl (.cons rfl (.nil _)))).rn2 (by decide) 0 1⟩


end Go.Proofs.Yteedclmcgifmpaa
