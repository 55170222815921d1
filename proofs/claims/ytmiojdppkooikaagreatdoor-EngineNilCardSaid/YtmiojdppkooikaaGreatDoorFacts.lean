/- A part of the proof that EngineNil returns true. This part: closed facts of the row; no conditions. -/
import Derived.Test.YtmiojdppkooikaaGreatDoorRows
import Derived.JoinedOf
namespace Go.Proofs.YtmiojdppkooikaaGreatDoor
theorem andI {a b : Bool} (h : a = true) (h' : b = true) : (a && b) = true := by rw [h, h']; rfl
set_option maxHeartbeats 40000000 in
theorem closed : joinedFacts Tryz.pinned.checked.prog 3 Tryz.f3 (OpenSpec.ofChange Rows.engineNilSpec).bare Rows.engineNilRow = true := by
  unfold joinedFacts
  repeat' with_reducible apply andI
  all_goals as_aux_lemma => kernel_rfl
end Go.Proofs.YtmiojdppkooikaaGreatDoor
