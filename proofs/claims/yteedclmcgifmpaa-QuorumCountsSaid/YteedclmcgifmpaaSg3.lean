/- Chapter 7: the three keys are unlike. -/
import Derived.Test.YteedclmcgifmpaaSg2
import Derived.Test.YteedclmcgifmpaaP7
namespace Go.Proofs.Yteedclmcgifmpaa.Qm
open Go Fw Sha Go.Proofs.Yteedclmcgifmpaa
theorem sd_up (i : Nat) : sd i = up (i :: List.replicate 31 0) := by
  rw [up_cons, up_replicate]
  rfl
theorem unlike : Unlike := fun i j hi hj h => keys_unlike (by omega) (by omega) (by rw [← sd_up, ← sd_up]; exact h)
end Go.Proofs.Yteedclmcgifmpaa.Qm
