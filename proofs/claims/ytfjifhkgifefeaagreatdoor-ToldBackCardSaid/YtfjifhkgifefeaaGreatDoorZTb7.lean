/- A moment, and a length, come back from the texts that they have; of two moments told with the same offset the later one is the greater text. -/
import Derived.Test.YtfjifhkgifefeaaGreatDoorZTb6
set_option linter.unusedVariables false
set_option linter.unusedSimpArgs false
section
/- ToldBack, whole. What is read off the program for the row, each fact for itself. -/
namespace Go.Proofs.YtfjifhkgifefeaaGreatDoor.toldBack
open Go.ChangeShapes Go.WideShapes Go.ChangeAt Go.RowKit Go.Joins Go.Proofs.YtfjifhkgifefeaaGreatDoor
open Go.ChangeMaps (open_string shut_string)

set_option maxHeartbeats 8000000 in
theorem closed : joinedFacts Tryz.prog 13 Tryz.f13 (OpenSpec.ofChange Rows.toldBackSpec).bare Rows.toldBackRow = true := by
  unfold joinedFacts
  repeat' with_reducible refine (Bool.and_eq_true_iff).mpr ⟨?_, ?_⟩
  all_goals as_aux_lemma => kernel_rfl
end Go.Proofs.YtfjifhkgifefeaaGreatDoor.toldBack
end

