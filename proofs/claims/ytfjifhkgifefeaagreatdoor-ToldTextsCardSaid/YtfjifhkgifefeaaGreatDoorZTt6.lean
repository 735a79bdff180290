/- Any moment as a text, that of any text, any length as a text, and that of any text, or the errors. -/
import Derived.Test.YtfjifhkgifefeaaGreatDoorZTt5
import Derived.Test.YtfjifhkgifefeaaGreatDoorCards
import Derived.Test.YtfjifhkgifefeaaGreatDoorTie
import Derived.WalkKit
import Derived.ProofKit
import Derived.OpenShut
import Derived.ShutString
import Derived.SizedLaws
import Derived.Lib.SmallJoins
import Derived.Deep.DeepHandedRow
set_option maxHeartbeats 8000000
set_option maxRecDepth 100000
set_option linter.unusedVariables false
set_option linter.unusedSimpArgs false
section
/- ToldTexts, whole. The row, and its tied card. -/
namespace Go.Proofs.YtfjifhkgifefeaaGreatDoor.toldTexts
open Go.ChangeShapes Go.WideShapes Go.ChangeAt Go.RowKit Go.Joins Go.Proofs.YtfjifhkgifefeaaGreatDoor
open Go.ChangeMaps (open_string shut_string)
theorem wfb {x : Int} (h : (Lit.int .i64 x).wf = true) : -9223372036854775808 ≤ x ∧ x ≤ 9223372036854775807 := by
  have e1 : IntKind.i64.min = -9223372036854775808 := rfl; have e2 : IntKind.i64.max = 9223372036854775807 := rfl
  simp [Lit.wf, e1, e2] at h
  omega
theorem cellsAgg0 : Tryz.prog.cellsOf 140 = 2 := by kernel_rfl
theorem contract (H : Type) (enc : TypeId × Value → H) (W : World) (base : Nat) (args : Array Value) (ds gs : List (DataW H)) (before : List MemPlace)
    (hval : ∀ (j : Nat) t v, Tryz.f12.params[j]? = some t → args[j]? = some v → Value.okWide Tryz.prog W .any base t v)
    (hW : DataW.Whole enc Tryz.prog Tryz.f12.params.toList Rows.toldTextsSpec.vars false W args.toList ds gs before) (hL : laidMetH Tryz.prog Rows.toldTextsRow.laid W) (hS : W.ShapedOpen Tryz.prog) :
    Calls Tryz.prog 12 args W fun e W' => ∃ v, e = .returned v ∧ Rows.toldTextsSpec.post enc Tryz.prog Tryz.f12 false true false false W args v W' := by
  have hLaid := LaidP.of_laid hL hS; have hW' := hW; obtain ⟨p, q, hA0, hV, rfl, hfz, hnd⟩ := hW; have hA : DataW.TrodAll enc Tryz.prog W 0 (fun _ => true) true Tryz.f12.params.toList args.toList ds p := hA0; rw [Tryz.params12] at hA hval; obtain ⟨v0, vs0, d0, ds0, p0, q0, hargs, rfl, rfl, h0, r0⟩ := trodAll_cons hA; obtain ⟨v1, vs1, d1, ds1, p1, q1, rfl, rfl, rfl, h1, r1⟩ := trodAll_cons r0; obtain ⟨v2, vs2, d2, ds2, p2, q2, rfl, rfl, rfl, h2, r2⟩ := trodAll_cons r1; obtain ⟨rfl, rfl, rfl⟩ := trodAll_nil r2
  obtain rfl : args = #[v0, v1, v2] := by cases args; simp_all
  obtain ⟨rfl, rfl⟩ := trodVars_none hV; obtain ⟨c00, c01, y00, y01, m0, rfl, rfl, rfl, hy00, hy01⟩ := open_agg2 Tryz.underlying140 (by kernel_rfl) cellsAgg0 (hval 0 140 v0 rfl rfl) h0; obtain ⟨a00, e00, rfl, wa00⟩ := DataW.trod_int Tryz.underlying2 hy00; obtain ⟨a01, e01, rfl, wa01⟩ := DataW.trod_int Tryz.underlying2 hy01
  simp at e00 e01
  subst e00 e01; obtain ⟨n1, rfl, rfl, rfl, wn1⟩ := open_int Tryz.underlying2 (hval 1 2 v1 rfl rfl) h1; obtain ⟨s2, rfl, rfl, rfl, hs2⟩ := open_string Tryz.underlying9 (hval 2 9 v2 rfl rfl) h2; clear hA0 hval; simp only [List.append_nil] at hW'; obtain ⟨ba00, bb00⟩ := wfb wa00; obtain ⟨ba01, bb01⟩ := wfb wa01; obtain ⟨bn1, bm1⟩ := wfb wn1; obtain ⟨k, hk⟩ := Pure.ToldTexts a00 a01 n1 s2 ba00 bb00 ba01 bb01 bn1 bm1
  refine (PV.fuseelaw43_ToldTexts.calls k a00 a01 n1 s2 true W hLaid hk).mono fun e W' ⟨he, hb⟩ => ?_
  subst he
  exact ⟨_, rfl, _, _, _, [], [], [], hW', trodAll_mk1 (shut_bool Tryz.underlying4 _), (trodAll_cons_mk (shut_agg2 (y0 := (.lit (.int .i64 a00), [])) (y1 := (.lit (.int .i64 a01), [])) Tryz.underlying140 (by kernel_rfl) cellsAgg0 ⟨1, by simp [DataW.trod, Tryz.underlying2, wa00]⟩ ⟨1, by simp [DataW.trod, Tryz.underlying2, wa01]⟩) (trodAll_cons_mk (shut_int Tryz.underlying2 wn1) (trodAll_cons_mk (shut_string Tryz.underlying9 hs2) trodAll_mk0))), rfl, hb.frame _, fun h => by cases h⟩
theorem reads (os : Os) {H : Type} (enc : TypeId × Value → H) : ∃ places, DataW.whole enc Tryz.prog ((LaidP.laidWorld os).forCall (fun _ _ => 0) ⟨#[], #[.agg #[.int .i64 0, .int .i64 0], .int .i64 0, .string ⟨#[]⟩], []⟩).memory Tryz.f12.params.toList Rows.toldTextsSpec.vars false #[(.agg #[.int .i64 0, .int .i64 0] : Value), .int .i64 0, .string ⟨#[]⟩].toList 8 = some ([.agg [.lit (.int .i64 0), .lit (.int .i64 0)], .lit (.int .i64 0), .lit (.string [])], [], places) :=
  ⟨[], by kernel_rfl⟩
end Go.Proofs.YtfjifhkgifefeaaGreatDoor.toldTexts
end

