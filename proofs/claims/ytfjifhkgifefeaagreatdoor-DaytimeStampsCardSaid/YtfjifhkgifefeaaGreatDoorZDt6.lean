/- DaytimeStamps, whole: any day, second and nanoseconds as a text, and those of any text, or the errors. No condition. -/
import Derived.Test.YtfjifhkgifefeaaGreatDoorZDt5
import Derived.Test.YtfjifhkgifefeaaGreatDoorCards
import Derived.Test.YtfjifhkgifefeaaGreatDoorTie
import Derived.WalkKit
import Derived.ProofKit
import Derived.OpenShut
import Derived.ShutString
import Derived.SizedLaws
import Derived.Lib.SmallJoins
import Derived.Deep.DeepHandedRow
set_option linter.unusedVariables false
set_option linter.unusedSimpArgs false
section
/- DaytimeStamps, whole. The row, and its tied card. -/
namespace Go.Proofs.YtfjifhkgifefeaaGreatDoor.daytimeStamps
open Go.ChangeShapes Go.WideShapes Go.ChangeAt Go.RowKit Go.Joins Go.Proofs.YtfjifhkgifefeaaGreatDoor
open Go.ChangeMaps (open_string shut_string)

theorem wfb {x : Int} (h : (Lit.int .i64 x).wf = true) : -9223372036854775808 ≤ x ∧ x ≤ 9223372036854775807 := by
  have e1 : IntKind.i64.min = -9223372036854775808 := rfl
  have e2 : IntKind.i64.max = 9223372036854775807 := rfl
  simp [Lit.wf, e1, e2] at h
  omega

set_option maxRecDepth 100000 in
theorem contract (H : Type) (enc : TypeId × Value → H) (W : World) (base : Nat) (args : Array Value) (ds gs : List (DataW H)) (before : List MemPlace)
    (hval : ∀ (j : Nat) t v, Tryz.f7.params[j]? = some t → args[j]? = some v → Value.okWide Tryz.prog W .any base t v)
    (hW : DataW.Whole enc Tryz.prog Tryz.f7.params.toList Rows.daytimeStampsSpec.vars false W args.toList ds gs before) (hL : laidMetH Tryz.prog Rows.daytimeStampsRow.laid W) (hS : W.ShapedOpen Tryz.prog) :
    Calls Tryz.prog 7 args W fun e W' => ∃ v, e = .returned v ∧ Rows.daytimeStampsSpec.post enc Tryz.prog Tryz.f7 false true false false W args v W' := by
  have hLaid := LaidP.of_laid hL hS
  have hW' := hW
  obtain ⟨p, q, hA0, hV, rfl, hfz, hnd⟩ := hW
  have hA : DataW.TrodAll enc Tryz.prog W 0 (fun _ => true) true Tryz.f7.params.toList args.toList ds p := hA0
  rw [Tryz.params7] at hA hval
  obtain ⟨v0, vs0, d0, ds0, p0, q0, hargs, rfl, rfl, h0, r0⟩ := trodAll_cons hA
  obtain ⟨v1, vs1, d1, ds1, p1, q1, rfl, rfl, rfl, h1, r1⟩ := trodAll_cons r0
  obtain ⟨v2, vs2, d2, ds2, p2, q2, rfl, rfl, rfl, h2, r2⟩ := trodAll_cons r1
  obtain ⟨rfl, rfl, rfl⟩ := trodAll_nil r2
  obtain rfl : args = #[v0, v1, v2] := by cases args; simp_all
  obtain ⟨rfl, rfl⟩ := trodVars_none hV
  obtain ⟨n0, rfl, rfl, rfl, wn0⟩ := open_int Tryz.underlying2 (hval 0 2 v0 rfl rfl) h0
  obtain ⟨a10, a11, rfl, rfl, rfl, wa10, wa11⟩ := Go.WideMaps.open_pair ⟨Tryz.underlying58, by kernel_rfl, by kernel_rfl, by kernel_rfl⟩ Tryz.underlying2 (hval 1 58 v1 rfl rfl) h1
  obtain ⟨s2, rfl, rfl, rfl, hs2⟩ := open_string Tryz.underlying9 (hval 2 9 v2 rfl rfl) h2
  clear hA0 hval
  simp only [List.append_nil] at hW'
  obtain ⟨bn0, bm0⟩ := wfb wn0
  obtain ⟨ba10, bb10⟩ := wfb wa10
  obtain ⟨ba11, bb11⟩ := wfb wa11
  obtain ⟨k, hk⟩ := Pure.DaytimeStamps n0 a10 a11 s2 bn0 bm0 ba10 bb10 ba11 bb11
  refine (PC.fuseelaw08_DaytimeStamps.calls k n0 a10 a11 s2 true W hLaid hk).mono fun e W' ⟨he, hb⟩ => ?_
  subst he
  exact ⟨_, rfl, _, _, _, [], [], [], hW', trodAll_mk1 (shut_bool Tryz.underlying4 _), (trodAll_cons_mk (shut_int Tryz.underlying2 wn0) (trodAll_cons_mk (Go.WideMaps.shut_pair ⟨Tryz.underlying58, by kernel_rfl, by kernel_rfl, by kernel_rfl⟩ Tryz.underlying2 wa10 wa11) (trodAll_cons_mk (shut_string Tryz.underlying9 hs2) trodAll_mk0))), rfl, hb.frame _, fun h => by cases h⟩

theorem reads (os : Os) {H : Type} (enc : TypeId × Value → H) : ∃ places, DataW.whole enc Tryz.prog ((LaidP.laidWorld os).forCall (fun _ _ => 0) ⟨#[], #[.int .i64 0, .agg #[.int .i64 0, .int .i64 0], .string ⟨#[]⟩], []⟩).memory Tryz.f7.params.toList Rows.daytimeStampsSpec.vars false #[(.int .i64 0 : Value), .agg #[.int .i64 0, .int .i64 0], .string ⟨#[]⟩].toList 8 = some ([.lit (.int .i64 0), .agg [.lit (.int .i64 0), .lit (.int .i64 0)], .lit (.string [])], [], places) :=
  ⟨[], by kernel_rfl⟩

set_option maxRecDepth 100000 in
theorem lifted (os : Os) (started : os.Started) (H : Type) (enc : TypeId × Value → H) (F : Stop.Interp) :
    ReturnsInHanded {} Tryz.checked os 7 .any ((OpenSpec.ofChange Rows.daytimeStampsSpec).preRow enc Tryz.prog Tryz.f7 Rows.daytimeStampsRow.domain false Rows.daytimeStampsRow.laid) (((OpenSpec.ofChange Rows.daytimeStampsSpec).at F).post enc Tryz.prog Tryz.f7 false true false false) := by
  obtain ⟨places, hx⟩ := reads os enc
  refine returnsInHanded_of_row (C := Tryz.checked) (s := OpenSpec.ofChange Rows.daytimeStampsSpec) LaidP.own started (by kernel_rfl) Tryz.func7
    (witness_row_atRef (enc := enc) (C := Tryz.checked) false (LaidP.laidWorld os) #[.int .i64 0, .agg #[.int .i64 0, .int .i64 0], .string ⟨#[]⟩] rfl (by kernel_rfl) (by kernel_rfl) (by kernel_rfl)
      (OpenSpec.preRow_of_cond 8 hx (by kernel_rfl) (fun k hk => by cases hk) (by kernel_rfl) (LaidP.laid_met os _))) ?_
  intro W base args ds gs before hval hW _ _ _ hL hS _
  exact contract H enc W base args ds gs before hval hW hL hS

theorem said : Rows.DaytimeStampsSaid :=
  OpenClaim.holds_of_cond 7 Tryz.f7 rfl rfl rfl rfl rfl rfl rfl ⟨rfl, rfl, rfl, rfl, rfl⟩ rfl rfl rfl rfl rfl (by kernel_rfl) Tryz.func7 (by kernel_rfl)
    (of_decide_eq_true (by kernel_rfl)) (by unfold Func.isWrapper; first | (rw [if_pos (by decide +kernel)]; kernel_rfl) | (rw [if_neg (by decide +kernel)]; exact ⟨rfl, rfl⟩))
    (fun os started H enc _ F => by rw [OpenClaim.pre_eq_preRow]; exact lifted os started H enc F)

theorem plain (f : FuncId) (fn : Func) (hf : Tryz.pinned.checked.prog.funcNamed "fusee/fuseelaw08.DaytimeStamps" = some f) (hfn : Tryz.pinned.checked.prog.funcs[f]? = some fn) :
    true = Tryz.pinned.checked.prog.looks [] ∧ ∀ (j : Nat) t, fn.params[j]? = some t → Tryz.pinned.checked.prog.wantsStandIn t = false := by
  obtain rfl : f = 7 := Option.some.inj ((show Tryz.prog.funcNamed "fusee/fuseelaw08.DaytimeStamps" = some 7 by kernel_rfl).symm.trans hf) |>.symm
  obtain rfl : fn = Tryz.f7 := (Option.some.inj (Tryz.func7.symm.trans hfn)).symm
  refine ⟨by kernel_rfl, fun j t ht => ?_⟩
  rw [Tryz.params7] at ht
  have hm : t ∈ [2, 58, 9] := by simpa using Array.mem_of_getElem? ht
  have hall : ([2, 58, 9].all fun u => !Tryz.prog.wantsStandIn u) = true := by kernel_rfl
  exact (show Tryz.prog.wantsStandIn t = false by simpa using List.all_eq_true.1 hall t hm)

/-- THE CARD. -/
theorem card : Rows.DaytimeStampsCardSaid :=
  Claim7.holds_tied_plain_at .later [] _ _ _ _ said (fun _ h => by cases h) (by kernel_rfl) (fun _ h => by cases h) daytimeStamps_row_tie rfl ⟨rfl, rfl⟩ (by kernel_rfl) rfl plain (by kernel_rfl)
end Go.Proofs.YtfjifhkgifefeaaGreatDoor.daytimeStamps
namespace Go.Proofs.YtfjifhkgifefeaaGreatDoor
/-- The card, under a short name, for the claim. -/
theorem daytimeStamps_card : Rows.DaytimeStampsCardSaid := daytimeStamps.card
end Go.Proofs.YtfjifhkgifefeaaGreatDoor
end

#print axioms Go.Proofs.YtfjifhkgifefeaaGreatDoor.daytimeStamps_card
