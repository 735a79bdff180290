/- A moment, and a length, come back from the texts that they have; of two moments told with the same offset the later one is the greater text. -/
import Derived.Test.YtfjifhkgifefeaaGreatDoorZTb5
set_option linter.unusedVariables false
set_option linter.unusedSimpArgs false
section
/- ToldBack, whole. The row lifted. -/
namespace Go.Proofs.YtfjifhkgifefeaaGreatDoor.toldBack
open Go.ChangeShapes Go.WideShapes Go.ChangeAt Go.RowKit Go.Joins Go.Proofs.YtfjifhkgifefeaaGreatDoor
open Go.ChangeMaps (open_string shut_string)

set_option maxRecDepth 100000 in
theorem lifted (os : Os) (started : os.Started) (H : Type) (enc : TypeId × Value → H) (F : Stop.Interp) :
    ReturnsInHanded {} Tryz.checked os 13 .any ((OpenSpec.ofChange Rows.toldBackSpec).preRow enc Tryz.prog Tryz.f13 Rows.toldBackRow.domain false Rows.toldBackRow.laid) (((OpenSpec.ofChange Rows.toldBackSpec).at F).post enc Tryz.prog Tryz.f13 false true false false) := by
  obtain ⟨places, hx⟩ := reads os enc
  refine returnsInHanded_of_row (C := Tryz.checked) (s := OpenSpec.ofChange Rows.toldBackSpec) LaidP.own started (by kernel_rfl) Tryz.func13
    (witness_row_atRef (enc := enc) (C := Tryz.checked) false (LaidP.laidWorld os) #[.agg #[.int .i64 0, .int .i64 0], .int .i64 0, .int .i64 0] rfl (by kernel_rfl) (by kernel_rfl) (by kernel_rfl)
      (OpenSpec.preRow_of_cond 8 hx (by kernel_rfl) (fun k hk => by cases hk) (by kernel_rfl) (LaidP.laid_met os _))) ?_
  intro W base args ds gs before hval hW _ _ _ hL hS _
  exact contract H enc W base args ds gs before hval hW hL hS
end Go.Proofs.YtfjifhkgifefeaaGreatDoor.toldBack
end

