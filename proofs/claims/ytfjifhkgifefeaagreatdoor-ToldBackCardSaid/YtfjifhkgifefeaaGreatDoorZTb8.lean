/- A moment, and a length, come back from the texts that they have; of two moments told with the same offset the later one is the greater text. -/
import Derived.Test.YtfjifhkgifefeaaGreatDoorZTb7
set_option linter.unusedVariables false
set_option linter.unusedSimpArgs false
section
/- ToldBack, whole. The tied card. -/
namespace Go.Proofs.YtfjifhkgifefeaaGreatDoor.toldBack
open Go.ChangeShapes Go.WideShapes Go.ChangeAt Go.RowKit Go.Joins Go.Proofs.YtfjifhkgifefeaaGreatDoor
open Go.ChangeMaps (open_string shut_string)

theorem said : Rows.ToldBackSaid :=
  OpenClaim.holds_of_cond 13 Tryz.f13 rfl rfl rfl rfl rfl rfl rfl ⟨rfl, rfl, rfl, rfl, rfl⟩ rfl rfl rfl rfl rfl (by kernel_rfl) Tryz.func13 closed
    (of_decide_eq_true (by kernel_rfl)) (by unfold Func.isWrapper; first | (rw [if_pos (by decide +kernel)]; kernel_rfl) | (rw [if_neg (by decide +kernel)]; exact ⟨rfl, rfl⟩))
    (fun os started H enc _ F => by rw [OpenClaim.pre_eq_preRow]; exact lifted os started H enc F)

theorem plain (f : FuncId) (fn : Func) (hf : Tryz.pinned.checked.prog.funcNamed "fusee/fuseelaw43.ToldBack" = some f) (hfn : Tryz.pinned.checked.prog.funcs[f]? = some fn) :
    true = Tryz.pinned.checked.prog.looks [] ∧ ∀ (j : Nat) t, fn.params[j]? = some t → Tryz.pinned.checked.prog.wantsStandIn t = false := by
  obtain rfl : f = 13 := Option.some.inj ((show Tryz.prog.funcNamed "fusee/fuseelaw43.ToldBack" = some 13 by kernel_rfl).symm.trans hf) |>.symm
  obtain rfl : fn = Tryz.f13 := (Option.some.inj (Tryz.func13.symm.trans hfn)).symm
  refine ⟨by kernel_rfl, fun j t ht => ?_⟩
  rw [Tryz.params13] at ht
  have hm : t ∈ [140, 2, 2] := by simpa using Array.mem_of_getElem? ht
  have hall : ([140, 2, 2].all fun u => !Tryz.prog.wantsStandIn u) = true := by kernel_rfl
  exact (show Tryz.prog.wantsStandIn t = false by simpa using List.all_eq_true.1 hall t hm)

/-- THE CARD. -/
theorem card : Rows.ToldBackCardSaid :=
  Claim7.holds_tied_plain_at .later [] _ _ _ _ said (fun _ h => by cases h) (by kernel_rfl) (fun _ h => by cases h) toldBack_row_tie rfl ⟨rfl, rfl⟩ (by kernel_rfl) rfl plain (by kernel_rfl)
end Go.Proofs.YtfjifhkgifefeaaGreatDoor.toldBack
namespace Go.Proofs.YtfjifhkgifefeaaGreatDoor
/-- The card, under a short name, for the claim. -/
theorem toldBack_card : Rows.ToldBackCardSaid := toldBack.card
end Go.Proofs.YtfjifhkgifefeaaGreatDoor
end

#print axioms Go.Proofs.YtfjifhkgifefeaaGreatDoor.toldBack_card
