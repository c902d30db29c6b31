/- Walks: the laws of chapter 2. -/
import Derived.Test.YtcglackbpfnfdaaD6
import Derived.Test.YtcglackbpfnfdaaFw11
namespace Go.Proofs.Ytcglackbpfnfdaa
open Go Go.RowKit Fw
open Sha
set_option linter.unusedVariables false
set_option linter.unusedSimpArgs false

set_option maxRecDepth 100000 in
theorem known_abc : ((strOf (hexL (sha [97, 98, 99]))).toList == (ByteArray.mk #[98, 97, 55, 56, 49, 54, 98, 102, 56, 102, 48, 49, 99, 102, 101, 97, 52, 49, 52, 49, 52, 48, 100, 101, 53, 100, 97, 101, 50, 50, 50, 51, 98, 48, 48, 51, 54, 49, 97, 51, 57, 54, 49, 55, 55, 97, 57, 99, 98, 52, 49, 48, 102, 102, 54, 49, 102, 50, 48, 48, 49, 53, 97, 100]).toList) = true := by decide +kernel
set_option maxRecDepth 100000 in
theorem known_fox : ((strOf (hexL (mac [107, 101, 121] [84, 104, 101, 32, 113, 117, 105, 99, 107, 32, 98, 114, 111, 119, 110, 32, 102, 111, 120, 32, 106, 117, 109, 112, 115, 32, 111, 118, 101, 114, 32, 116, 104, 101, 32, 108, 97, 122, 121, 32, 100, 111, 103]))).toList == (ByteArray.mk #[102, 55, 98, 99, 56, 51, 102, 52, 51, 48, 53, 51, 56, 52, 50, 52, 98, 49, 51, 50, 57, 56, 101, 54, 97, 97, 54, 102, 98, 49, 52, 51, 101, 102, 52, 100, 53, 57, 97, 49, 52, 57, 52, 54, 49, 55, 53, 57, 57, 55, 52, 55, 57, 100, 98, 99, 50, 100, 49, 97, 51, 99, 100, 56]).toList) = true := by decide +kernel

set_option maxRecDepth 20000 in
set_option maxHeartbeats 1000000 in
theorem known2_any (w : World) : Calls Try.prog 17 #[] w (PostV w (.bool true)) := by
  refine calls_at (vs := []) (X := []) (H := []) (F := []) 15 Try.func17 rfl rfl rfl (Sat.start0 w) ?_
  refine cd_seq ?_
  refine cd_region ?_
  refine st (ev_assign rfl) rfl rfl rfl ?_
  refine op_nil ?_
  refine ax_then ?_
  refine At.regs (L' := [(0, _)]) (.cons rfl (.nil _)) ?_
  refine cd_seq ?_
  refine cd_region ?_
  refine st_bsi (h := 1) (xs := [_, _, _]) Try.underlying34 ty5 (by decide) rfl rfl (by decide) rfl rfl (fun b1 => ?_)
  refine st_mark (h := 1) Try.underlying34 Try.underlying5 rfl rfl rfl rfl ?_
  refine st_callv has14 rfl (fun w1 sw => sum_any (.slice (some ⟨b1, 0, none⟩) 3 3) [97, 98, 99] w1 (by decide) (rd_blk_all sw (h := 1) rfl rfl)) rfl rfl ?_
  refine st_callv has22 rfl (fun w1 sw => hex_any (sha [97, 98, 99]) w1 (sha_len _) (sha_byt _)) rfl rfl ?_
  refine st (ev_eql_str rfl rfl) rfl rfl rfl ?_
  refine st (ev_move rfl) rfl rfl rfl ?_
  refine at_eq (i := 6) (v' := .bool true) rfl (by rw [known_abc]) ?_
  refine st_bsi (h := 7) (xs := [_, _, _]) Try.underlying34 ty5 (by decide) rfl rfl (by decide) rfl rfl (fun b7 => ?_)
  refine st_mark (h := 7) Try.underlying34 Try.underlying5 rfl rfl rfl rfl ?_
  refine st_bsi (h := 9) (xs := [_, _, _, _, _, _, _, _, _, _, _, _, _, _, _, _, _, _, _, _, _, _, _, _, _, _, _, _, _, _, _, _, _, _, _, _, _, _, _, _, _, _, _]) Try.underlying34 ty5 (by decide) rfl rfl (by decide) rfl rfl (fun b9 => ?_)
  refine st_mark (h := 9) Try.underlying34 Try.underlying5 rfl rfl rfl rfl ?_
  refine st_callv has18 rfl (fun w1 sw => mac_any (.slice (some ⟨b7, 0, none⟩) 3 3) (.slice (some ⟨b9, 0, none⟩) 43 43) [107, 101, 121] [84, 104, 101, 32, 113, 117, 105, 99, 107, 32, 98, 114, 111, 119, 110, 32, 102, 111, 120, 32, 106, 117, 109, 112, 115, 32, 111, 118, 101, 114, 32, 116, 104, 101, 32, 108, 97, 122, 121, 32, 100, 111, 103] w1 (by decide) (by decide) (rd_blk_all sw (h := 7) rfl rfl) (rd_blk_all sw (h := 9) rfl rfl)) rfl rfl ?_
  refine st_callv has22 rfl (fun w1 sw => hex_any (mac [107, 101, 121] [84, 104, 101, 32, 113, 117, 105, 99, 107, 32, 98, 114, 111, 119, 110, 32, 102, 111, 120, 32, 106, 117, 109, 112, 115, 32, 111, 118, 101, 114, 32, 116, 104, 101, 32, 108, 97, 122, 121, 32, 100, 111, 103]) w1 (mac_len _ _) (mac_byt _ _)) rfl rfl ?_
  refine st (ev_eql_str rfl rfl) rfl rfl rfl ?_
  refine st (ev_pick_t rfl rfl) rfl rfl rfl ?_
  refine st (ev_assign rfl) rfl rfl rfl ?_
  refine op_nil ?_
  refine ax_then ?_
  refine At.regs (L' := [(0, _)]) (.cons rfl (.nil _)) ?_
  refine cd_ret ?_
  refine rt_tmp (.inl rfl) Try.results17 rfl ?_
  exact fun w1 sw => ⟨by rw [known_fox], sw.gives (.nil _)⟩

end Go.Proofs.Ytcglackbpfnfdaa
