/- Any moment as a text, that of any text, any length as a text, and that of any text, or the errors. -/
import Derived.Test.YtfjifhkgifefeaaGreatDoorZTt4
import Derived.WideLaws
import Derived.Test.YtfjifhkgifefeaaGreatDoorProg
import Derived.Below
import Derived.Deep.Draws
import Derived.Deep.AppendLies
import Derived.Maps.AppendAt
import Derived.OwnWalk
import Derived.Laws.BytesArg
import Derived.Laws.MakeOwn
import Derived.Laws.OwnMore
import Derived.Deep.OwnRows
import Derived.Tactics
import Derived.Lib.ConvBytes
import Derived.Laws.Slices
import Derived.WalkKit
import Derived.KernelRfl
import Derived.RowKit3
import Derived.Deep.LoopGhost
import Derived.Deep.QuietTactic
import Derived.BigQuiet
import Derived.Deep.DeepCutAuto
import Derived.Deep.CutBlock
import Derived.Deep.RegionHeld3
import Derived.Laws.Rows
import Derived.Lib.AppendStr
import Derived.ArgAppend
import Derived.Laws.IdiomCopy
import Derived.OrdersHeld
import Derived.Laws.BitsLemmas
import Derived.RowKit
import Derived.Sort.Walk0
import Derived.Test.YtfjifhkgifefeaaGreatDoorRows
import Derived.LaidMore
import Derived.LaidHandle
import Derived.Stop.LaidErr
import Derived.Lib.LaidTab
import Derived.Deep.DeepWitnessRowRef
import Derived.WideKeyPair
set_option maxHeartbeats 8000000
set_option maxRecDepth 100000
set_option linter.unusedVariables false
set_option linter.unusedSimpArgs false
section
namespace Go.Proofs.YtfjifhkgifefeaaGreatDoor.PU
open Giv PA PT Go.RowKit YtfjifhkgifefeaaGreatDoorW.PrintWords YtfjifhkgifefeaaGreatDoorW.PrintLast YtfjifhkgifefeaaGreatDoorW.PrintMore
attribute [local go_sem] max2_int min2_int max_two min_two max_three min_three max_four min_four
set_option linter.unusedVariables false
set_option linter.unusedSimpArgs false
mutual
def fuseeref43_Long.j0 : Nat → ByteArray → Bool → Option (Int × Int)
 | 0, _, _ => none
 | k + 1, x0, x19 => if x19 = true then (some (0, 3)) else (if 0 ≤ (wrap64 ((x0.size : Int) - 1)) then (if (wrap64 ((x0.size : Int) - 1)) ≤ (x0.size : Int) then ((fuseeref07_Cut.f k (x0.extract 0 ((wrap64 ((x0.size : Int) - 1)) : Int).toNat) 46).bind fun t101 => (if (t101.length : Int) > 2 then (fuseeref43_Long.j1 k t101 true) else (if 0 < (t101.length : Int) then (if ((rdOf ByteArray.empty t101 0).size : Int) < 1 then (fuseeref43_Long.j1 k t101 true) else (if ((rdOf ByteArray.empty t101 0).size : Int) > 10 then (fuseeref43_Long.j1 k t101 true) else (if ((rdOf ByteArray.empty t101 0).size : Int) > 1 then (if 0 < ((rdOf ByteArray.empty t101 0).size : Int) then (if (bt (rdOf ByteArray.empty t101 0) 0) = 48 then (fuseeref43_Long.j1 k t101 true) else (if 0 ≤ (wrap64 (((rdOf ByteArray.empty t101 0).size : Int) - 1)) then (if (wrap64 (((rdOf ByteArray.empty t101 0).size : Int) - 1)) ≤ ((rdOf ByteArray.empty t101 0).size : Int) then ((fuseeref07_Digits.f k ((rdOf ByteArray.empty t101 0).extract 0 ((wrap64 (((rdOf ByteArray.empty t101 0).size : Int) - 1)) : Int).toNat)).bind fun t110 => (if t110 < 0 then (fuseeref43_Long.j1 k t101 true) else ((fuseeref07_Digits.f k ((rdOf ByteArray.empty t101 0).extract ((wrap64 (((rdOf ByteArray.empty t101 0).size : Int) - 1)) : Int).toNat (rdOf ByteArray.empty t101 0).size)).bind fun t113 => (fuseeref43_Long.j1 k t101 (decide (t113 < 0)))))) else (none)) else (none))) else (none)) else (if 0 ≤ (wrap64 (((rdOf ByteArray.empty t101 0).size : Int) - 1)) then (if (wrap64 (((rdOf ByteArray.empty t101 0).size : Int) - 1)) ≤ ((rdOf ByteArray.empty t101 0).size : Int) then ((fuseeref07_Digits.f k ((rdOf ByteArray.empty t101 0).extract 0 ((wrap64 (((rdOf ByteArray.empty t101 0).size : Int) - 1)) : Int).toNat)).bind fun t116 => (if t116 < 0 then (fuseeref43_Long.j1 k t101 true) else ((fuseeref07_Digits.f k ((rdOf ByteArray.empty t101 0).extract ((wrap64 (((rdOf ByteArray.empty t101 0).size : Int) - 1)) : Int).toNat (rdOf ByteArray.empty t101 0).size)).bind fun t119 => (fuseeref43_Long.j1 k t101 (decide (t119 < 0)))))) else (none)) else (none))))) else (none)))) else (none)) else (none))
def fuseeref43_Long.j1 : Nat → List ByteArray → Bool → Option (Int × Int)
 | 0, _, _ => none
 | k + 1, x4, x82 => if x82 = true then (some (0, 3)) else (if 0 < (x4.length : Int) then (if 0 ≤ (wrap64 (((rdOf ByteArray.empty x4 0).size : Int) - 1)) then (if (wrap64 (((rdOf ByteArray.empty x4 0).size : Int) - 1)) ≤ ((rdOf ByteArray.empty x4 0).size : Int) then ((fuseeref07_Digits.f k ((rdOf ByteArray.empty x4 0).extract 0 ((wrap64 (((rdOf ByteArray.empty x4 0).size : Int) - 1)) : Int).toNat)).bind fun t122 => ((fuseeref07_Digits.f k ((rdOf ByteArray.empty x4 0).extract ((wrap64 (((rdOf ByteArray.empty x4 0).size : Int) - 1)) : Int).toNat (rdOf ByteArray.empty x4 0).size)).bind fun t125 => (if (x4.length : Int) = 2 then (if 1 < (x4.length : Int) then (if ((rdOf ByteArray.empty x4 1).size : Int) < 1 then (fuseeref43_Long.j2 k (wrap64 ((wrap64 (10 * t122)) + t125)) (rdOf ByteArray.empty x4 1) true) else (if ((rdOf ByteArray.empty x4 1).size : Int) > 9 then (fuseeref43_Long.j2 k (wrap64 ((wrap64 (10 * t122)) + t125)) (rdOf ByteArray.empty x4 1) true) else (if 0 ≤ (wrap64 (((rdOf ByteArray.empty x4 1).size : Int) - 1)) then (if (wrap64 (((rdOf ByteArray.empty x4 1).size : Int) - 1)) < ((rdOf ByteArray.empty x4 1).size : Int) then (if (bt (rdOf ByteArray.empty x4 1) (wrap64 (((rdOf ByteArray.empty x4 1).size : Int) - 1))) = 48 then (fuseeref43_Long.j2 k (wrap64 ((wrap64 (10 * t122)) + t125)) (rdOf ByteArray.empty x4 1) true) else ((fuseeref07_Digits.f k (rdOf ByteArray.empty x4 1)).bind fun t127 => (fuseeref43_Long.j2 k (wrap64 ((wrap64 (10 * t122)) + t125)) (rdOf ByteArray.empty x4 1) (decide (t127 < 0))))) else (none)) else (none)))) else (none)) else (if (wrap64 ((wrap64 (10 * t122)) + t125)) > 9223372036 then (some (0, 3)) else (if (wrap64 ((wrap64 (10 * t122)) + t125)) = 9223372036 then (some (wrap64 ((wrap64 (1000000000 * (wrap64 ((wrap64 (10 * t122)) + t125)))) + 0), 0)) else (some (wrap64 ((wrap64 (1000000000 * (wrap64 ((wrap64 (10 * t122)) + t125)))) + 0), 0))))))) else (none)) else (none)) else (none))
def fuseeref43_Long.j2 : Nat → Int → ByteArray → Bool → Option (Int × Int)
 | 0, _, _, _ => none
 | k + 1, x5, x7, x131 => if x131 = true then (some (0, 3)) else ((fuseeref07_Digits.f k x7).bind fun t128 => (fuseeref43_Long.l0 k x5 t128 (x7.size : Int)))
def fuseeref43_Long.l0 : Nat → Int → Int → Int → Option (Int × Int)
 | 0, _, _, _ => none
 | k + 1, x5, x6, x8 => if x8 < 9 then (fuseeref43_Long.l0 k x5 (wrap64 (10 * x6)) (wrap64 (x8 + 1))) else (if x5 > 9223372036 then (some (0, 3)) else (if x5 = 9223372036 then (if x6 > 854775807 then (some (0, 3)) else (some (wrap64 ((wrap64 (1000000000 * x5)) + x6), 0))) else (some (wrap64 ((wrap64 (1000000000 * x5)) + x6), 0))))
end
def fuseeref43_Long.f (k : Nat) (a0 : ByteArray) : Option (Int × Int) := if (a0.size : Int) < 2 then (fuseeref43_Long.j0 k a0 true) else (if 0 ≤ (wrap64 ((a0.size : Int) - 1)) then (if (wrap64 ((a0.size : Int) - 1)) < (a0.size : Int) then (fuseeref43_Long.j0 k a0 ((bt a0 (wrap64 ((a0.size : Int) - 1))) != 115)) else (none)) else (none))
theorem fuseeref43_Long.calls (k : Nat) (a0 : ByteArray) (r1 : Int) (r2 : Int) (w : World) (h : fuseeref43_Long.f k a0 = some (r1, r2)) :
  Calls Tryz.prog 87 #[.string a0] w fun e w' => e = .returned (.tuple #[.int .i64 r1, .int .i64 r2]) ∧ Below w.heap.size w w' := by
 have HB := Aside0.mk (Below.refl w.heap.size w); have H := h; clear h
 unfold fuseeref43_Long.f at H
 have HC2 := Aside0.mk H; clear H
 go_enter Tryz.func87, Tryz.ntmps87
 go_upto_region 1 with (fail)
 repeat (go_quiet (fail); go_upto_region 1 with (fail))
 go_cut [19] (fun v19 wc => ∃ (kq : Nat) (x19_1 : Bool), v19 = .bool x19_1 ∧ Aside0 (fuseeref43_Long.j0 kq a0 x19_1 = some (r1, r2)) ∧ Aside0 (kq ≤ k) ∧ Aside0 (Below w.heap.size w wc))
 case first =>
  have H := HC2.out; clear HC2
  by_cases c3 : (a0.size : Int) < 2
  ·rw [if_pos c3] at H; have c3b0 : decide ((a0.size : Int) < 2) = true := decide_eq_true c3; have c3b1 : decide (a0.size < 2) = true := decide_eq_true (by omega); clear c3
   (first | rw [c3b0] | (simp only [i64_w, i32_w]; rw [c3b0]) | skip)
   as_aux_lemma =>
    have H' := Aside0.mk H; clear H
    go_wp2
    repeat (go_quiet (fail); try go_wp2)
    go_meet
    case rel => exact ⟨_, (true), rs_, H', ⟨by first | omega | exact Nat.le_refl _⟩, ⟨bl_⟩⟩
  ·rw [if_neg c3] at H; have c3b0 : decide ((a0.size : Int) < 2) = false := decide_eq_false c3; have c3b1 : decide (a0.size < 2) = false := decide_eq_false (by omega); clear c3
   (first | rw [c3b0] | (simp only [i64_w, i32_w]; rw [c3b0]) | skip)
   obtain ⟨ji4, hji4⟩ : ∃ j_ : Int, (wrap64 ((a0.size : Int) - 1)) = j_ := ⟨_, rfl⟩
   replace H : (if 0 ≤ (ji4) then (if (ji4) < (a0.size : Int) then (fuseeref43_Long.j0 k a0 ((bt a0 (ji4)) != 115)) else (none)) else (none)) = some (r1, r2) := by first | (rw [hji4] at H; exact H) | (simp only [hji4] at H ⊢; exact H)
   have hji4w : (IntKind.i64.wrap ((a0.size : Int) - 1)) = ji4 := (i64_w _).trans hji4
   by_cases c5 : 0 ≤ (ji4)
   ·rw [if_pos c5] at H; have c5b0 : decide (0 ≤ (ji4)) = true := decide_eq_true c5; clear c5
    by_cases c6 : (ji4) < (a0.size : Int)
    ·rw [if_pos c6] at H; have c6b0 : decide ((ji4) < (a0.size : Int)) = true := decide_eq_true c6; clear c6
     as_aux_lemma =>
      have H' := Aside0.mk H; clear H; have p7 : 0 ≤ ((ji4) : Int) := of_decide_eq_true as_; have q7 : (ji4) < (a0.size : Int) := of_decide_eq_true as_; have hx7 := bt_at a0 (ji4); replace p7 := eq_true p7; replace q7 := eq_true q7
      go_wp2
      repeat (go_quiet (fail); try go_wp2)
      go_meet
      case rel => exact ⟨_, (((bt a0 (ji4)) != 115)), (by first | rfl | (simp; done) | (simp only [← hji4] <;> (first | rfl | simp)) | (simp [*]; done)), H', ⟨by first | omega | exact Nat.le_refl _⟩, ⟨bl_⟩⟩
    ·rw [if_neg c6] at H; exact absurd H (by simp)
   ·rw [if_neg c5] at H; exact absurd H (by simp)
 case rest =>
  clear HC2; (try clear p2); (try clear c3); (try clear c3b0); (try clear c3b1); (try clear c5); (try clear c5b0); (try clear c6); (try clear c6b0); (try clear p6); (try clear p7); (try clear q7); (try clear hx7); (try clear p7); (try clear q7); obtain ⟨kq, x19_1, rfl, HA, HJ1, HB⟩ := hcut
  cases kq with
  | zero => exact absurd HA.out (by simp [fuseeref43_Long.j0])
  | succ kj1 =>
   have H := HA.out; clear HA; simp only [fuseeref43_Long.j0] at H
   by_cases c8 : x19_1 = true
   ·subst c8
    have H1 : (some (0, 3)) = some (r1, r2) := by rw [if_pos rfl] at H; exact H
    clear H; have H := H1; clear H1
    as_aux_lemma =>
     simp only [Option.some.injEq, Prod.mk.injEq] at H; obtain ⟨rfl, rfl⟩ := H
     go_wp2
     repeat (go_quiet (fail); try go_wp2)
     go_ret2
     exact en_
   ·replace c8 := Bool.eq_false_iff.mpr c8; subst c8
    have H1 : (if 0 ≤ (wrap64 ((a0.size : Int) - 1)) then (if (wrap64 ((a0.size : Int) - 1)) ≤ (a0.size : Int) then ((fuseeref07_Cut.f kj1 (a0.extract 0 ((wrap64 ((a0.size : Int) - 1)) : Int).toNat) 46).bind fun t101 => (if (t101.length : Int) > 2 then (fuseeref43_Long.j1 kj1 t101 true) else (if 0 < (t101.length : Int) then (if ((rdOf ByteArray.empty t101 0).size : Int) < 1 then (fuseeref43_Long.j1 kj1 t101 true) else (if ((rdOf ByteArray.empty t101 0).size : Int) > 10 then (fuseeref43_Long.j1 kj1 t101 true) else (if ((rdOf ByteArray.empty t101 0).size : Int) > 1 then (if 0 < ((rdOf ByteArray.empty t101 0).size : Int) then (if (bt (rdOf ByteArray.empty t101 0) 0) = 48 then (fuseeref43_Long.j1 kj1 t101 true) else (if 0 ≤ (wrap64 (((rdOf ByteArray.empty t101 0).size : Int) - 1)) then (if (wrap64 (((rdOf ByteArray.empty t101 0).size : Int) - 1)) ≤ ((rdOf ByteArray.empty t101 0).size : Int) then ((fuseeref07_Digits.f kj1 ((rdOf ByteArray.empty t101 0).extract 0 ((wrap64 (((rdOf ByteArray.empty t101 0).size : Int) - 1)) : Int).toNat)).bind fun t110 => (if t110 < 0 then (fuseeref43_Long.j1 kj1 t101 true) else ((fuseeref07_Digits.f kj1 ((rdOf ByteArray.empty t101 0).extract ((wrap64 (((rdOf ByteArray.empty t101 0).size : Int) - 1)) : Int).toNat (rdOf ByteArray.empty t101 0).size)).bind fun t113 => (fuseeref43_Long.j1 kj1 t101 (decide (t113 < 0)))))) else (none)) else (none))) else (none)) else (if 0 ≤ (wrap64 (((rdOf ByteArray.empty t101 0).size : Int) - 1)) then (if (wrap64 (((rdOf ByteArray.empty t101 0).size : Int) - 1)) ≤ ((rdOf ByteArray.empty t101 0).size : Int) then ((fuseeref07_Digits.f kj1 ((rdOf ByteArray.empty t101 0).extract 0 ((wrap64 (((rdOf ByteArray.empty t101 0).size : Int) - 1)) : Int).toNat)).bind fun t116 => (if t116 < 0 then (fuseeref43_Long.j1 kj1 t101 true) else ((fuseeref07_Digits.f kj1 ((rdOf ByteArray.empty t101 0).extract ((wrap64 (((rdOf ByteArray.empty t101 0).size : Int) - 1)) : Int).toNat (rdOf ByteArray.empty t101 0).size)).bind fun t119 => (fuseeref43_Long.j1 kj1 t101 (decide (t119 < 0)))))) else (none)) else (none))))) else (none)))) else (none)) else (none)) = some (r1, r2) := by rw [if_neg (show ¬ (false = true) by decide)] at H; exact H
    clear H; have H := H1; clear H1
    obtain ⟨ji9, hji9⟩ : ∃ j_ : Int, (wrap64 ((a0.size : Int) - 1)) = j_ := ⟨_, rfl⟩
    replace H : (if 0 ≤ (ji9) then (if (ji9) ≤ (a0.size : Int) then ((fuseeref07_Cut.f kj1 (a0.extract 0 ((ji9) : Int).toNat) 46).bind fun t101 => (if (t101.length : Int) > 2 then (fuseeref43_Long.j1 kj1 t101 true) else (if 0 < (t101.length : Int) then (if ((rdOf ByteArray.empty t101 0).size : Int) < 1 then (fuseeref43_Long.j1 kj1 t101 true) else (if ((rdOf ByteArray.empty t101 0).size : Int) > 10 then (fuseeref43_Long.j1 kj1 t101 true) else (if ((rdOf ByteArray.empty t101 0).size : Int) > 1 then (if 0 < ((rdOf ByteArray.empty t101 0).size : Int) then (if (bt (rdOf ByteArray.empty t101 0) 0) = 48 then (fuseeref43_Long.j1 kj1 t101 true) else (if 0 ≤ (wrap64 (((rdOf ByteArray.empty t101 0).size : Int) - 1)) then (if (wrap64 (((rdOf ByteArray.empty t101 0).size : Int) - 1)) ≤ ((rdOf ByteArray.empty t101 0).size : Int) then ((fuseeref07_Digits.f kj1 ((rdOf ByteArray.empty t101 0).extract 0 ((wrap64 (((rdOf ByteArray.empty t101 0).size : Int) - 1)) : Int).toNat)).bind fun t110 => (if t110 < 0 then (fuseeref43_Long.j1 kj1 t101 true) else ((fuseeref07_Digits.f kj1 ((rdOf ByteArray.empty t101 0).extract ((wrap64 (((rdOf ByteArray.empty t101 0).size : Int) - 1)) : Int).toNat (rdOf ByteArray.empty t101 0).size)).bind fun t113 => (fuseeref43_Long.j1 kj1 t101 (decide (t113 < 0)))))) else (none)) else (none))) else (none)) else (if 0 ≤ (wrap64 (((rdOf ByteArray.empty t101 0).size : Int) - 1)) then (if (wrap64 (((rdOf ByteArray.empty t101 0).size : Int) - 1)) ≤ ((rdOf ByteArray.empty t101 0).size : Int) then ((fuseeref07_Digits.f kj1 ((rdOf ByteArray.empty t101 0).extract 0 ((wrap64 (((rdOf ByteArray.empty t101 0).size : Int) - 1)) : Int).toNat)).bind fun t116 => (if t116 < 0 then (fuseeref43_Long.j1 kj1 t101 true) else ((fuseeref07_Digits.f kj1 ((rdOf ByteArray.empty t101 0).extract ((wrap64 (((rdOf ByteArray.empty t101 0).size : Int) - 1)) : Int).toNat (rdOf ByteArray.empty t101 0).size)).bind fun t119 => (fuseeref43_Long.j1 kj1 t101 (decide (t119 < 0)))))) else (none)) else (none))))) else (none)))) else (none)) else (none)) = some (r1, r2) := by first | (rw [hji9] at H; exact H) | (simp only [hji9] at H ⊢; exact H)
    have hji9w : (IntKind.i64.wrap ((a0.size : Int) - 1)) = ji9 := (i64_w _).trans hji9
    by_cases c10 : 0 ≤ (ji9)
    ·rw [if_pos c10] at H; have c10b0 := eq_true c10; have c10b1 : decide (0 ≤ (ji9)) = true := decide_eq_true c10; clear c10
     by_cases c11 : (ji9) ≤ (a0.size : Int)
     ·rw [if_pos c11] at H; have c11b0 := eq_true c11; have c11b1 : decide ((ji9) ≤ (a0.size : Int)) = true := decide_eq_true c11; clear c11; replace H := Option.bind_eq_some_iff.mp H; obtain ⟨t101, A120, H⟩ := H; (try dsimp only at H); have A12 := Aside0.mk A120; clear A120; have HC13 := Aside0.mk H; clear H
      go_upto_region 4 with (first | (go_at_call 137; (with_reducible refine (fuseeref07_Cut.calls kj1 (a0.extract 0 ((ji9) : Int).toNat) 46 t101 _ A12.out).mono ?_); rintro e w14 ⟨v102, rfl, ho0, hb⟩; have HO103 := Aside0.mk (Kd.R_lower ho0 (below_size bl_)); replace HB := bs_ hb; (try clear hb); (try clear ho0)))
      repeat (go_quiet (fail); go_upto_region 4 with (first | (go_at_call 137; (with_reducible refine (fuseeref07_Cut.calls kj1 (a0.extract 0 ((ji9) : Int).toNat) 46 t101 _ A12.out).mono ?_); rintro e w14 ⟨v102, rfl, ho0, hb⟩; have HO103 := Aside0.mk (Kd.R_lower ho0 (below_size bl_)); replace HB := bs_ hb; (try clear hb); (try clear ho0))))
      (try simp only [Act.put, List.setIfInBounds_toArray, List.set_cons_zero, List.set_cons_succ])
      go_cut [82] (fun v82 wc => ∃ (kq : Nat) (x82_12 : Bool), v82 = .bool x82_12 ∧ Aside0 (fuseeref43_Long.j1 kq t101 x82_12 = some (r1, r2)) ∧ Aside0 (kq ≤ kj1) ∧ Aside0 (Kd.R Kd.string 9 wc w.heap.size (fun _ => True) v102 t101) ∧ Aside0 (Below w.heap.size w wc))
      case first =>
       have H := HC13.out; clear HC13
       by_cases c15 : (t101.length : Int) > 2
       ·rw [if_pos c15] at H; have c15b0 : decide (2 < (t101.length : Int)) = true := decide_eq_true c15; have c15b1 : decide (2 < t101.length) = true := decide_eq_true (by omega); clear c15
        (first | rw [c15b0] | (simp only [i64_w, i32_w]; rw [c15b0]) | skip)
        as_aux_lemma =>
         have H' := Aside0.mk H; clear H; obtain ⟨Ao16, co16, eo16⟩ := Kd.R_slice HO103.out; subst eo16
         go_wp2
         repeat (go_quiet (fail); try go_wp2)
         go_meet
         case rel => exact ⟨_, (true), rs_, H', ⟨by have := HJ1.out; first | omega | exact Nat.le_refl _⟩, ⟨by (with_reducible repeat (first | apply Kd.R_alloc | apply Kd.R_drewN | apply Kd.R_drew)); exact HO103.out⟩, ⟨bl_⟩⟩
       ·rw [if_neg c15] at H; have c15b0 : decide (2 < (t101.length : Int)) = false := decide_eq_false c15; have c15b1 : decide (2 < t101.length) = false := decide_eq_false (by omega); clear c15
        (first | rw [c15b0] | (simp only [i64_w, i32_w]; rw [c15b0]) | skip)
        by_cases c17 : 0 < (t101.length : Int)
        ·rw [if_pos c17] at H; have c17b0 : decide (0 < (t101.length : Int)) = true := decide_eq_true c17; have c17b1 : decide (0 < t101.length) = true := decide_eq_true (by omega); clear c17
         by_cases c18 : ((rdOf ByteArray.empty t101 0).size : Int) < 1
         ·rw [if_pos c18] at H; have c18b0 : decide (((rdOf ByteArray.empty t101 0).size : Int) < 1) = true := decide_eq_true c18; have c18b1 : decide ((rdOf ByteArray.empty t101 0).size < 1) = true := decide_eq_true (by omega); clear c18
          as_aux_lemma =>
           have H' := Aside0.mk H; clear H; obtain ⟨Ao19, co19, eo19⟩ := Kd.R_slice HO103.out; subst eo19
           have p104 : 0 ≤ (0 : Int) := (by omega)
           have q104 : 0 < (t101.length : Int) := of_decide_eq_true as_; obtain ⟨ad104, e104, hx104_0⟩ := Kd.at_string (Kd.R_reads' HO103.out).2.2 0 p104 q104
           cases e104
           have qi104 : (0 < t101.length) = True := eq_true (by omega)
           (try rw [show ((0 : Int)).toNat = 0 from rfl] at hx104_0)
           (try rw [Addr.add_zero'] at hx104_0)
           replace p104 := eq_true p104; replace q104 := eq_true q104
           go_wp2
           repeat (go_quiet (fail); try go_wp2)
           go_meet
           case rel => exact ⟨_, (true), rs_, H', ⟨by have := HJ1.out; first | omega | exact Nat.le_refl _⟩, ⟨by (with_reducible repeat (first | apply Kd.R_alloc | apply Kd.R_drewN | apply Kd.R_drew)); exact HO103.out⟩, ⟨bl_⟩⟩
         ·rw [if_neg c18] at H; have c18b0 : decide (((rdOf ByteArray.empty t101 0).size : Int) < 1) = false := decide_eq_false c18; have c18b1 : decide ((rdOf ByteArray.empty t101 0).size < 1) = false := decide_eq_false (by omega); clear c18
          by_cases c20 : ((rdOf ByteArray.empty t101 0).size : Int) > 10
          ·rw [if_pos c20] at H; have c20b0 : decide (10 < ((rdOf ByteArray.empty t101 0).size : Int)) = true := decide_eq_true c20; have c20b1 : decide (10 < (rdOf ByteArray.empty t101 0).size) = true := decide_eq_true (by omega); clear c20
           as_aux_lemma =>
            have H' := Aside0.mk H; clear H; obtain ⟨Ao21, co21, eo21⟩ := Kd.R_slice HO103.out; subst eo21
            have p104 : 0 ≤ (0 : Int) := (by omega)
            have q104 : 0 < (t101.length : Int) := of_decide_eq_true as_; obtain ⟨ad104, e104, hx104_0⟩ := Kd.at_string (Kd.R_reads' HO103.out).2.2 0 p104 q104
            cases e104
            have qi104 : (0 < t101.length) = True := eq_true (by omega)
            (try rw [show ((0 : Int)).toNat = 0 from rfl] at hx104_0)
            (try rw [Addr.add_zero'] at hx104_0)
            replace p104 := eq_true p104; replace q104 := eq_true q104
            have p105 : 0 ≤ (0 : Int) := (by omega)
            have q105 : 0 < (t101.length : Int) := of_decide_eq_true as_; obtain ⟨ad105, e105, hx105_0⟩ := Kd.at_string (Kd.R_reads' HO103.out).2.2 0 p105 q105
            obtain rfl : ad104 = ad105 := (by injection e105)
            have qi105 : (0 < t101.length) = True := eq_true (by omega)
            (try rw [show ((0 : Int)).toNat = 0 from rfl] at hx105_0)
            (try rw [Addr.add_zero'] at hx105_0)
            replace p105 := eq_true p105; replace q105 := eq_true q105
            go_wp2
            repeat (go_quiet (fail); try go_wp2)
            go_meet
            case rel => exact ⟨_, (true), rs_, H', ⟨by have := HJ1.out; first | omega | exact Nat.le_refl _⟩, ⟨by (with_reducible repeat (first | apply Kd.R_alloc | apply Kd.R_drewN | apply Kd.R_drew)); exact HO103.out⟩, ⟨bl_⟩⟩
          ·rw [if_neg c20] at H; have c20b0 : decide (10 < ((rdOf ByteArray.empty t101 0).size : Int)) = false := decide_eq_false c20; have c20b1 : decide (10 < (rdOf ByteArray.empty t101 0).size) = false := decide_eq_false (by omega); clear c20
           by_cases c22 : ((rdOf ByteArray.empty t101 0).size : Int) > 1
           ·rw [if_pos c22] at H; have c22b0 : decide (1 < ((rdOf ByteArray.empty t101 0).size : Int)) = true := decide_eq_true c22; have c22b1 : decide (1 < (rdOf ByteArray.empty t101 0).size) = true := decide_eq_true (by omega); clear c22
            by_cases c23 : 0 < ((rdOf ByteArray.empty t101 0).size : Int)
            ·rw [if_pos c23] at H; have c23b0 : decide (0 < ((rdOf ByteArray.empty t101 0).size : Int)) = true := decide_eq_true c23; have c23b1 : decide (0 < (rdOf ByteArray.empty t101 0).size) = true := decide_eq_true (by omega); clear c23
             by_cases c25 : (bt (rdOf ByteArray.empty t101 0) 0) = 48
             ·rw [if_pos c25] at H; have c25b0 : ((bt (rdOf ByteArray.empty t101 0) 0) == 48) = true := beq_iff_eq.mpr c25; have c25b1 : ((bt (rdOf ByteArray.empty t101 0) 0) != 48) = false := bne_eq_false_iff_eq.mpr c25; clear c25
              as_aux_lemma =>
               have H' := Aside0.mk H; clear H; obtain ⟨Ao26, co26, eo26⟩ := Kd.R_slice HO103.out; subst eo26
               have p104 : 0 ≤ (0 : Int) := (by omega)
               have q104 : 0 < (t101.length : Int) := of_decide_eq_true as_; obtain ⟨ad104, e104, hx104_0⟩ := Kd.at_string (Kd.R_reads' HO103.out).2.2 0 p104 q104
               cases e104
               have qi104 : (0 < t101.length) = True := eq_true (by omega)
               (try rw [show ((0 : Int)).toNat = 0 from rfl] at hx104_0)
               (try rw [Addr.add_zero'] at hx104_0)
               replace p104 := eq_true p104; replace q104 := eq_true q104
               have p105 : 0 ≤ (0 : Int) := (by omega)
               have q105 : 0 < (t101.length : Int) := of_decide_eq_true as_; obtain ⟨ad105, e105, hx105_0⟩ := Kd.at_string (Kd.R_reads' HO103.out).2.2 0 p105 q105
               obtain rfl : ad104 = ad105 := (by injection e105)
               have qi105 : (0 < t101.length) = True := eq_true (by omega)
               (try rw [show ((0 : Int)).toNat = 0 from rfl] at hx105_0)
               (try rw [Addr.add_zero'] at hx105_0)
               replace p105 := eq_true p105; replace q105 := eq_true q105
               have p106 : 0 ≤ (0 : Int) := (by omega)
               have q106 : 0 < (t101.length : Int) := of_decide_eq_true as_; obtain ⟨ad106, e106, hx106_0⟩ := Kd.at_string (Kd.R_reads' HO103.out).2.2 0 p106 q106
               obtain rfl : ad104 = ad106 := (by injection e106)
               have qi106 : (0 < t101.length) = True := eq_true (by omega)
               (try rw [show ((0 : Int)).toNat = 0 from rfl] at hx106_0)
               (try rw [Addr.add_zero'] at hx106_0)
               replace p106 := eq_true p106; replace q106 := eq_true q106
               have p107 : 0 ≤ (0 : Int) := (by omega)
               have q107 : 0 < (t101.length : Int) := of_decide_eq_true as_; obtain ⟨ad107, e107, hx107_0⟩ := Kd.at_string (Kd.R_reads' HO103.out).2.2 0 p107 q107
               obtain rfl : ad104 = ad107 := (by injection e107)
               have qi107 : (0 < t101.length) = True := eq_true (by omega)
               (try rw [show ((0 : Int)).toNat = 0 from rfl] at hx107_0)
               (try rw [Addr.add_zero'] at hx107_0)
               replace p107 := eq_true p107; replace q107 := eq_true q107
               have p24 : 0 ≤ (0 : Int) := (by omega)
               have q24 : 0 < (rdOf ByteArray.empty t101 0).size := (by have : (0 : Int) < ((rdOf ByteArray.empty t101 0).size : Int) := of_decide_eq_true as_; omega)
               have hx24 : ∀ h : 0 < (rdOf ByteArray.empty t101 0).size, (((rdOf ByteArray.empty t101 0)[0]'h).toNat : Int) = bt (rdOf ByteArray.empty t101 0) 0 := bt_at (rdOf ByteArray.empty t101 0) 0; clear p24; have qi24 : (0 < ((rdOf ByteArray.empty t101 0).size : Int)) = True := eq_true (of_decide_eq_true as_); replace q24 := eq_true q24
               go_wp2
               repeat (go_quiet (fail); try go_wp2)
               go_meet
               case rel => exact ⟨_, (true), rs_, H', ⟨by have := HJ1.out; first | omega | exact Nat.le_refl _⟩, ⟨by (with_reducible repeat (first | apply Kd.R_alloc | apply Kd.R_drewN | apply Kd.R_drew)); exact HO103.out⟩, ⟨bl_⟩⟩
             ·rw [if_neg c25] at H; have c25b0 : ((bt (rdOf ByteArray.empty t101 0) 0) == 48) = false := beq_eq_false_iff_ne.mpr c25; have c25b1 : ((bt (rdOf ByteArray.empty t101 0) 0) != 48) = true := bne_iff_ne.mpr c25
              obtain ⟨ji27, hji27⟩ : ∃ j_ : Int, (wrap64 (((rdOf ByteArray.empty t101 0).size : Int) - 1)) = j_ := ⟨_, rfl⟩
              replace H : (if 0 ≤ (ji27) then (if (ji27) ≤ ((rdOf ByteArray.empty t101 0).size : Int) then ((fuseeref07_Digits.f kj1 ((rdOf ByteArray.empty t101 0).extract 0 ((ji27) : Int).toNat)).bind fun t110 => (if t110 < 0 then (fuseeref43_Long.j1 kj1 t101 true) else ((fuseeref07_Digits.f kj1 ((rdOf ByteArray.empty t101 0).extract ((ji27) : Int).toNat (rdOf ByteArray.empty t101 0).size)).bind fun t113 => (fuseeref43_Long.j1 kj1 t101 (decide (t113 < 0)))))) else (none)) else (none)) = some (r1, r2) := by first | (rw [hji27] at H; exact H) | (simp only [hji27] at H ⊢; exact H)
              have hji27w : (IntKind.i64.wrap (((rdOf ByteArray.empty t101 0).size : Int) - 1)) = ji27 := (i64_w _).trans hji27
              by_cases c28 : 0 ≤ (ji27)
              ·rw [if_pos c28] at H; have c28b0 := eq_true c28; have c28b1 : decide (0 ≤ (ji27)) = true := decide_eq_true c28; clear c28
               by_cases c29 : (ji27) ≤ ((rdOf ByteArray.empty t101 0).size : Int)
               ·rw [if_pos c29] at H; have c29b0 := eq_true c29; have c29b1 : decide ((ji27) ≤ ((rdOf ByteArray.empty t101 0).size : Int)) = true := decide_eq_true c29; clear c29; replace H := Option.bind_eq_some_iff.mp H; obtain ⟨t110, A300, H⟩ := H; (try dsimp only at H); have A30 := Aside0.mk A300; clear A300
                by_cases c31 : t110 < 0
                ·rw [if_pos c31] at H; have c31b0 : decide (t110 < 0) = true := decide_eq_true c31; clear c31
                 as_aux_lemma =>
                  have H' := Aside0.mk H; clear H; obtain ⟨Ao32, co32, eo32⟩ := Kd.R_slice HO103.out; subst eo32
                  have p104 : 0 ≤ (0 : Int) := (by omega)
                  have q104 : 0 < (t101.length : Int) := of_decide_eq_true as_; obtain ⟨ad104, e104, hx104_0⟩ := Kd.at_string (Kd.R_reads' HO103.out).2.2 0 p104 q104
                  cases e104
                  have qi104 : (0 < t101.length) = True := eq_true (by omega)
                  (try rw [show ((0 : Int)).toNat = 0 from rfl] at hx104_0)
                  (try rw [Addr.add_zero'] at hx104_0)
                  replace p104 := eq_true p104; replace q104 := eq_true q104
                  have p105 : 0 ≤ (0 : Int) := (by omega)
                  have q105 : 0 < (t101.length : Int) := of_decide_eq_true as_; obtain ⟨ad105, e105, hx105_0⟩ := Kd.at_string (Kd.R_reads' HO103.out).2.2 0 p105 q105
                  obtain rfl : ad104 = ad105 := (by injection e105)
                  have qi105 : (0 < t101.length) = True := eq_true (by omega)
                  (try rw [show ((0 : Int)).toNat = 0 from rfl] at hx105_0)
                  (try rw [Addr.add_zero'] at hx105_0)
                  replace p105 := eq_true p105; replace q105 := eq_true q105
                  have p106 : 0 ≤ (0 : Int) := (by omega)
                  have q106 : 0 < (t101.length : Int) := of_decide_eq_true as_; obtain ⟨ad106, e106, hx106_0⟩ := Kd.at_string (Kd.R_reads' HO103.out).2.2 0 p106 q106
                  obtain rfl : ad104 = ad106 := (by injection e106)
                  have qi106 : (0 < t101.length) = True := eq_true (by omega)
                  (try rw [show ((0 : Int)).toNat = 0 from rfl] at hx106_0)
                  (try rw [Addr.add_zero'] at hx106_0)
                  replace p106 := eq_true p106; replace q106 := eq_true q106
                  have p107 : 0 ≤ (0 : Int) := (by omega)
                  have q107 : 0 < (t101.length : Int) := of_decide_eq_true as_; obtain ⟨ad107, e107, hx107_0⟩ := Kd.at_string (Kd.R_reads' HO103.out).2.2 0 p107 q107
                  obtain rfl : ad104 = ad107 := (by injection e107)
                  have qi107 : (0 < t101.length) = True := eq_true (by omega)
                  (try rw [show ((0 : Int)).toNat = 0 from rfl] at hx107_0)
                  (try rw [Addr.add_zero'] at hx107_0)
                  replace p107 := eq_true p107; replace q107 := eq_true q107
                  have p24 : 0 ≤ (0 : Int) := (by omega)
                  have q24 : 0 < (rdOf ByteArray.empty t101 0).size := (by have : (0 : Int) < ((rdOf ByteArray.empty t101 0).size : Int) := of_decide_eq_true as_; omega)
                  have hx24 : ∀ h : 0 < (rdOf ByteArray.empty t101 0).size, (((rdOf ByteArray.empty t101 0)[0]'h).toNat : Int) = bt (rdOf ByteArray.empty t101 0) 0 := bt_at (rdOf ByteArray.empty t101 0) 0; clear p24; have qi24 : (0 < ((rdOf ByteArray.empty t101 0).size : Int)) = True := eq_true (of_decide_eq_true as_); replace q24 := eq_true q24
                  have p108 : 0 ≤ (0 : Int) := (by omega)
                  have q108 : 0 < (t101.length : Int) := of_decide_eq_true as_; obtain ⟨ad108, e108, hx108_0⟩ := Kd.at_string (Kd.R_reads' HO103.out).2.2 0 p108 q108
                  obtain rfl : ad104 = ad108 := (by injection e108)
                  have qi108 : (0 < t101.length) = True := eq_true (by omega)
                  (try rw [show ((0 : Int)).toNat = 0 from rfl] at hx108_0)
                  (try rw [Addr.add_zero'] at hx108_0)
                  replace p108 := eq_true p108; replace q108 := eq_true q108
                  have p109 : 0 ≤ (0 : Int) := (by omega)
                  have q109 : 0 < (t101.length : Int) := of_decide_eq_true as_; obtain ⟨ad109, e109, hx109_0⟩ := Kd.at_string (Kd.R_reads' HO103.out).2.2 0 p109 q109
                  obtain rfl : ad104 = ad109 := (by injection e109)
                  have qi109 : (0 < t101.length) = True := eq_true (by omega)
                  (try rw [show ((0 : Int)).toNat = 0 from rfl] at hx109_0)
                  (try rw [Addr.add_zero'] at hx109_0)
                  replace p109 := eq_true p109; replace q109 := eq_true q109
                  go_wp2_with (first | (go_at_call 98; (with_reducible refine (fuseeref07_Digits.calls kj1 ((rdOf ByteArray.empty t101 0).extract 0 ((ji27) : Int).toNat) t110 _ A30.out).mono ?_); rintro e w' ⟨rfl, ⟨nd, rfl⟩⟩; (try exact dn_)))
                  repeat (go_quiet (first | (go_at_call 98; (with_reducible refine (fuseeref07_Digits.calls kj1 ((rdOf ByteArray.empty t101 0).extract 0 ((ji27) : Int).toNat) t110 _ A30.out).mono ?_); rintro e w' ⟨rfl, ⟨nd, rfl⟩⟩; (try exact dn_))); try go_wp2_with (first | (go_at_call 98; (with_reducible refine (fuseeref07_Digits.calls kj1 ((rdOf ByteArray.empty t101 0).extract 0 ((ji27) : Int).toNat) t110 _ A30.out).mono ?_); rintro e w' ⟨rfl, ⟨nd, rfl⟩⟩; (try exact dn_))))
                  go_meet
                  case rel => exact ⟨_, (true), rs_, H', ⟨by have := HJ1.out; first | omega | exact Nat.le_refl _⟩, ⟨by (with_reducible repeat (first | apply Kd.R_alloc | apply Kd.R_drewN | apply Kd.R_drew)); exact HO103.out⟩, ⟨bl_⟩⟩
                ·rw [if_neg c31] at H; have c31b0 : decide (t110 < 0) = false := decide_eq_false c31; clear c31; have c33b0 := eq_true (of_decide_eq_true as_ : 0 ≤ (ji27)); have c34b0 := eq_true (of_decide_eq_true as_ : (ji27) ≤ ((rdOf ByteArray.empty t101 0).size : Int)); replace H := Option.bind_eq_some_iff.mp H; obtain ⟨t113, A350, H⟩ := H; (try dsimp only at H); have A35 := Aside0.mk A350; clear A350
                 as_aux_lemma =>
                  have H' := Aside0.mk H; clear H; obtain ⟨Ao36, co36, eo36⟩ := Kd.R_slice HO103.out; subst eo36
                  have p104 : 0 ≤ (0 : Int) := (by omega)
                  have q104 : 0 < (t101.length : Int) := of_decide_eq_true as_; obtain ⟨ad104, e104, hx104_0⟩ := Kd.at_string (Kd.R_reads' HO103.out).2.2 0 p104 q104
                  cases e104
                  have qi104 : (0 < t101.length) = True := eq_true (by omega)
                  (try rw [show ((0 : Int)).toNat = 0 from rfl] at hx104_0)
                  (try rw [Addr.add_zero'] at hx104_0)
                  replace p104 := eq_true p104; replace q104 := eq_true q104
                  have p105 : 0 ≤ (0 : Int) := (by omega)
                  have q105 : 0 < (t101.length : Int) := of_decide_eq_true as_; obtain ⟨ad105, e105, hx105_0⟩ := Kd.at_string (Kd.R_reads' HO103.out).2.2 0 p105 q105
                  obtain rfl : ad104 = ad105 := (by injection e105)
                  have qi105 : (0 < t101.length) = True := eq_true (by omega)
                  (try rw [show ((0 : Int)).toNat = 0 from rfl] at hx105_0)
                  (try rw [Addr.add_zero'] at hx105_0)
                  replace p105 := eq_true p105; replace q105 := eq_true q105
                  have p106 : 0 ≤ (0 : Int) := (by omega)
                  have q106 : 0 < (t101.length : Int) := of_decide_eq_true as_; obtain ⟨ad106, e106, hx106_0⟩ := Kd.at_string (Kd.R_reads' HO103.out).2.2 0 p106 q106
                  obtain rfl : ad104 = ad106 := (by injection e106)
                  have qi106 : (0 < t101.length) = True := eq_true (by omega)
                  (try rw [show ((0 : Int)).toNat = 0 from rfl] at hx106_0)
                  (try rw [Addr.add_zero'] at hx106_0)
                  replace p106 := eq_true p106; replace q106 := eq_true q106
                  have p107 : 0 ≤ (0 : Int) := (by omega)
                  have q107 : 0 < (t101.length : Int) := of_decide_eq_true as_; obtain ⟨ad107, e107, hx107_0⟩ := Kd.at_string (Kd.R_reads' HO103.out).2.2 0 p107 q107
                  obtain rfl : ad104 = ad107 := (by injection e107)
                  have qi107 : (0 < t101.length) = True := eq_true (by omega)
                  (try rw [show ((0 : Int)).toNat = 0 from rfl] at hx107_0)
                  (try rw [Addr.add_zero'] at hx107_0)
                  replace p107 := eq_true p107; replace q107 := eq_true q107
                  have p24 : 0 ≤ (0 : Int) := (by omega)
                  have q24 : 0 < (rdOf ByteArray.empty t101 0).size := (by have : (0 : Int) < ((rdOf ByteArray.empty t101 0).size : Int) := of_decide_eq_true as_; omega)
                  have hx24 : ∀ h : 0 < (rdOf ByteArray.empty t101 0).size, (((rdOf ByteArray.empty t101 0)[0]'h).toNat : Int) = bt (rdOf ByteArray.empty t101 0) 0 := bt_at (rdOf ByteArray.empty t101 0) 0; clear p24; have qi24 : (0 < ((rdOf ByteArray.empty t101 0).size : Int)) = True := eq_true (of_decide_eq_true as_); replace q24 := eq_true q24
                  have p108 : 0 ≤ (0 : Int) := (by omega)
                  have q108 : 0 < (t101.length : Int) := of_decide_eq_true as_; obtain ⟨ad108, e108, hx108_0⟩ := Kd.at_string (Kd.R_reads' HO103.out).2.2 0 p108 q108
                  obtain rfl : ad104 = ad108 := (by injection e108)
                  have qi108 : (0 < t101.length) = True := eq_true (by omega)
                  (try rw [show ((0 : Int)).toNat = 0 from rfl] at hx108_0)
                  (try rw [Addr.add_zero'] at hx108_0)
                  replace p108 := eq_true p108; replace q108 := eq_true q108
                  have p109 : 0 ≤ (0 : Int) := (by omega)
                  have q109 : 0 < (t101.length : Int) := of_decide_eq_true as_; obtain ⟨ad109, e109, hx109_0⟩ := Kd.at_string (Kd.R_reads' HO103.out).2.2 0 p109 q109
                  obtain rfl : ad104 = ad109 := (by injection e109)
                  have qi109 : (0 < t101.length) = True := eq_true (by omega)
                  (try rw [show ((0 : Int)).toNat = 0 from rfl] at hx109_0)
                  (try rw [Addr.add_zero'] at hx109_0)
                  replace p109 := eq_true p109; replace q109 := eq_true q109
                  go_wp2_with (first | (go_at_call 98; (with_reducible refine (fuseeref07_Digits.calls kj1 ((rdOf ByteArray.empty t101 0).extract 0 ((ji27) : Int).toNat) t110 _ A30.out).mono ?_); rintro e w' ⟨rfl, ⟨nd, rfl⟩⟩; (try exact dn_); have p111 : 0 ≤ (0 : Int) := (by omega); have q111 : 0 < (t101.length : Int) := of_decide_eq_true as_; obtain ⟨ad111, e111, hx111_0⟩ := Kd.at_string (Kd.R_reads' HO103.out).2.2 0 p111 q111; obtain rfl : ad104 = ad111 := (by injection e111); have qi111 : (0 < t101.length) = True := eq_true (by omega); (try rw [show ((0 : Int)).toNat = 0 from rfl] at hx111_0); (try rw [Addr.add_zero'] at hx111_0); replace p111 := eq_true p111; replace q111 := eq_true q111; have p112 : 0 ≤ (0 : Int) := (by omega); have q112 : 0 < (t101.length : Int) := of_decide_eq_true as_; obtain ⟨ad112, e112, hx112_0⟩ := Kd.at_string (Kd.R_reads' HO103.out).2.2 0 p112 q112; obtain rfl : ad104 = ad112 := (by injection e112); have qi112 : (0 < t101.length) = True := eq_true (by omega); (try rw [show ((0 : Int)).toNat = 0 from rfl] at hx112_0); (try rw [Addr.add_zero'] at hx112_0); replace p112 := eq_true p112; replace q112 := eq_true q112) | (go_at_call 98; (with_reducible refine (fuseeref07_Digits.calls kj1 ((rdOf ByteArray.empty t101 0).extract ((ji27) : Int).toNat (rdOf ByteArray.empty t101 0).size) t113 _ A35.out).mono ?_); rintro e w' ⟨rfl, ⟨nd, rfl⟩⟩; (try exact dn_)))
                  repeat (go_quiet (first | (go_at_call 98; (with_reducible refine (fuseeref07_Digits.calls kj1 ((rdOf ByteArray.empty t101 0).extract 0 ((ji27) : Int).toNat) t110 _ A30.out).mono ?_); rintro e w' ⟨rfl, ⟨nd, rfl⟩⟩; (try exact dn_); have p111 : 0 ≤ (0 : Int) := (by omega); have q111 : 0 < (t101.length : Int) := of_decide_eq_true as_; obtain ⟨ad111, e111, hx111_0⟩ := Kd.at_string (Kd.R_reads' HO103.out).2.2 0 p111 q111; obtain rfl : ad104 = ad111 := (by injection e111); have qi111 : (0 < t101.length) = True := eq_true (by omega); (try rw [show ((0 : Int)).toNat = 0 from rfl] at hx111_0); (try rw [Addr.add_zero'] at hx111_0); replace p111 := eq_true p111; replace q111 := eq_true q111; have p112 : 0 ≤ (0 : Int) := (by omega); have q112 : 0 < (t101.length : Int) := of_decide_eq_true as_; obtain ⟨ad112, e112, hx112_0⟩ := Kd.at_string (Kd.R_reads' HO103.out).2.2 0 p112 q112; obtain rfl : ad104 = ad112 := (by injection e112); have qi112 : (0 < t101.length) = True := eq_true (by omega); (try rw [show ((0 : Int)).toNat = 0 from rfl] at hx112_0); (try rw [Addr.add_zero'] at hx112_0); replace p112 := eq_true p112; replace q112 := eq_true q112) | (go_at_call 98; (with_reducible refine (fuseeref07_Digits.calls kj1 ((rdOf ByteArray.empty t101 0).extract ((ji27) : Int).toNat (rdOf ByteArray.empty t101 0).size) t113 _ A35.out).mono ?_); rintro e w' ⟨rfl, ⟨nd, rfl⟩⟩; (try exact dn_))); try go_wp2_with (first | (go_at_call 98; (with_reducible refine (fuseeref07_Digits.calls kj1 ((rdOf ByteArray.empty t101 0).extract 0 ((ji27) : Int).toNat) t110 _ A30.out).mono ?_); rintro e w' ⟨rfl, ⟨nd, rfl⟩⟩; (try exact dn_); have p111 : 0 ≤ (0 : Int) := (by omega); have q111 : 0 < (t101.length : Int) := of_decide_eq_true as_; obtain ⟨ad111, e111, hx111_0⟩ := Kd.at_string (Kd.R_reads' HO103.out).2.2 0 p111 q111; obtain rfl : ad104 = ad111 := (by injection e111); have qi111 : (0 < t101.length) = True := eq_true (by omega); (try rw [show ((0 : Int)).toNat = 0 from rfl] at hx111_0); (try rw [Addr.add_zero'] at hx111_0); replace p111 := eq_true p111; replace q111 := eq_true q111; have p112 : 0 ≤ (0 : Int) := (by omega); have q112 : 0 < (t101.length : Int) := of_decide_eq_true as_; obtain ⟨ad112, e112, hx112_0⟩ := Kd.at_string (Kd.R_reads' HO103.out).2.2 0 p112 q112; obtain rfl : ad104 = ad112 := (by injection e112); have qi112 : (0 < t101.length) = True := eq_true (by omega); (try rw [show ((0 : Int)).toNat = 0 from rfl] at hx112_0); (try rw [Addr.add_zero'] at hx112_0); replace p112 := eq_true p112; replace q112 := eq_true q112) | (go_at_call 98; (with_reducible refine (fuseeref07_Digits.calls kj1 ((rdOf ByteArray.empty t101 0).extract ((ji27) : Int).toNat (rdOf ByteArray.empty t101 0).size) t113 _ A35.out).mono ?_); rintro e w' ⟨rfl, ⟨nd, rfl⟩⟩; (try exact dn_))))
                  go_meet
                  case rel => exact ⟨_, (decide (t113 < 0)), rs_, H', ⟨by have := HJ1.out; first | omega | exact Nat.le_refl _⟩, ⟨by (with_reducible repeat (first | apply Kd.R_alloc | apply Kd.R_drewN | apply Kd.R_drew)); exact HO103.out⟩, ⟨bl_⟩⟩
               ·rw [if_neg c29] at H; exact absurd H (by simp)
              ·rw [if_neg c28] at H; exact absurd H (by simp)
            ·rw [if_neg c23] at H; exact absurd H (by simp)
           ·rw [if_neg c22] at H; have c22b0 : decide (1 < ((rdOf ByteArray.empty t101 0).size : Int)) = false := decide_eq_false c22; have c22b1 : decide (1 < (rdOf ByteArray.empty t101 0).size) = false := decide_eq_false (by omega); clear c22
            obtain ⟨ji37, hji37⟩ : ∃ j_ : Int, (wrap64 (((rdOf ByteArray.empty t101 0).size : Int) - 1)) = j_ := ⟨_, rfl⟩
            replace H : (if 0 ≤ (ji37) then (if (ji37) ≤ ((rdOf ByteArray.empty t101 0).size : Int) then ((fuseeref07_Digits.f kj1 ((rdOf ByteArray.empty t101 0).extract 0 ((ji37) : Int).toNat)).bind fun t116 => (if t116 < 0 then (fuseeref43_Long.j1 kj1 t101 true) else ((fuseeref07_Digits.f kj1 ((rdOf ByteArray.empty t101 0).extract ((ji37) : Int).toNat (rdOf ByteArray.empty t101 0).size)).bind fun t119 => (fuseeref43_Long.j1 kj1 t101 (decide (t119 < 0)))))) else (none)) else (none)) = some (r1, r2) := by first | (rw [hji37] at H; exact H) | (simp only [hji37] at H ⊢; exact H)
            have hji37w : (IntKind.i64.wrap (((rdOf ByteArray.empty t101 0).size : Int) - 1)) = ji37 := (i64_w _).trans hji37
            by_cases c38 : 0 ≤ (ji37)
            ·rw [if_pos c38] at H; have c38b0 := eq_true c38; have c38b1 : decide (0 ≤ (ji37)) = true := decide_eq_true c38; clear c38
             by_cases c39 : (ji37) ≤ ((rdOf ByteArray.empty t101 0).size : Int)
             ·rw [if_pos c39] at H; have c39b0 := eq_true c39; have c39b1 : decide ((ji37) ≤ ((rdOf ByteArray.empty t101 0).size : Int)) = true := decide_eq_true c39; clear c39; replace H := Option.bind_eq_some_iff.mp H; obtain ⟨t116, A400, H⟩ := H; (try dsimp only at H); have A40 := Aside0.mk A400; clear A400
              by_cases c41 : t116 < 0
              ·rw [if_pos c41] at H; have c41b0 : decide (t116 < 0) = true := decide_eq_true c41; clear c41
               as_aux_lemma =>
                have H' := Aside0.mk H; clear H; obtain ⟨Ao42, co42, eo42⟩ := Kd.R_slice HO103.out; subst eo42
                have p104 : 0 ≤ (0 : Int) := (by omega)
                have q104 : 0 < (t101.length : Int) := of_decide_eq_true as_; obtain ⟨ad104, e104, hx104_0⟩ := Kd.at_string (Kd.R_reads' HO103.out).2.2 0 p104 q104
                cases e104
                have qi104 : (0 < t101.length) = True := eq_true (by omega)
                (try rw [show ((0 : Int)).toNat = 0 from rfl] at hx104_0)
                (try rw [Addr.add_zero'] at hx104_0)
                replace p104 := eq_true p104; replace q104 := eq_true q104
                have p105 : 0 ≤ (0 : Int) := (by omega)
                have q105 : 0 < (t101.length : Int) := of_decide_eq_true as_; obtain ⟨ad105, e105, hx105_0⟩ := Kd.at_string (Kd.R_reads' HO103.out).2.2 0 p105 q105
                obtain rfl : ad104 = ad105 := (by injection e105)
                have qi105 : (0 < t101.length) = True := eq_true (by omega)
                (try rw [show ((0 : Int)).toNat = 0 from rfl] at hx105_0)
                (try rw [Addr.add_zero'] at hx105_0)
                replace p105 := eq_true p105; replace q105 := eq_true q105
                have p106 : 0 ≤ (0 : Int) := (by omega)
                have q106 : 0 < (t101.length : Int) := of_decide_eq_true as_; obtain ⟨ad106, e106, hx106_0⟩ := Kd.at_string (Kd.R_reads' HO103.out).2.2 0 p106 q106
                obtain rfl : ad104 = ad106 := (by injection e106)
                have qi106 : (0 < t101.length) = True := eq_true (by omega)
                (try rw [show ((0 : Int)).toNat = 0 from rfl] at hx106_0)
                (try rw [Addr.add_zero'] at hx106_0)
                replace p106 := eq_true p106; replace q106 := eq_true q106
                have p114 : 0 ≤ (0 : Int) := (by omega)
                have q114 : 0 < (t101.length : Int) := of_decide_eq_true as_; obtain ⟨ad114, e114, hx114_0⟩ := Kd.at_string (Kd.R_reads' HO103.out).2.2 0 p114 q114
                obtain rfl : ad104 = ad114 := (by injection e114)
                have qi114 : (0 < t101.length) = True := eq_true (by omega)
                (try rw [show ((0 : Int)).toNat = 0 from rfl] at hx114_0)
                (try rw [Addr.add_zero'] at hx114_0)
                replace p114 := eq_true p114; replace q114 := eq_true q114
                have p115 : 0 ≤ (0 : Int) := (by omega)
                have q115 : 0 < (t101.length : Int) := of_decide_eq_true as_; obtain ⟨ad115, e115, hx115_0⟩ := Kd.at_string (Kd.R_reads' HO103.out).2.2 0 p115 q115
                obtain rfl : ad104 = ad115 := (by injection e115)
                have qi115 : (0 < t101.length) = True := eq_true (by omega)
                (try rw [show ((0 : Int)).toNat = 0 from rfl] at hx115_0)
                (try rw [Addr.add_zero'] at hx115_0)
                replace p115 := eq_true p115; replace q115 := eq_true q115
                go_wp2_with (first | (go_at_call 98; (with_reducible refine (fuseeref07_Digits.calls kj1 ((rdOf ByteArray.empty t101 0).extract 0 ((ji37) : Int).toNat) t116 _ A40.out).mono ?_); rintro e w' ⟨rfl, ⟨nd, rfl⟩⟩; (try exact dn_)))
                repeat (go_quiet (first | (go_at_call 98; (with_reducible refine (fuseeref07_Digits.calls kj1 ((rdOf ByteArray.empty t101 0).extract 0 ((ji37) : Int).toNat) t116 _ A40.out).mono ?_); rintro e w' ⟨rfl, ⟨nd, rfl⟩⟩; (try exact dn_))); try go_wp2_with (first | (go_at_call 98; (with_reducible refine (fuseeref07_Digits.calls kj1 ((rdOf ByteArray.empty t101 0).extract 0 ((ji37) : Int).toNat) t116 _ A40.out).mono ?_); rintro e w' ⟨rfl, ⟨nd, rfl⟩⟩; (try exact dn_))))
                go_meet
                case rel => exact ⟨_, (true), rs_, H', ⟨by have := HJ1.out; first | omega | exact Nat.le_refl _⟩, ⟨by (with_reducible repeat (first | apply Kd.R_alloc | apply Kd.R_drewN | apply Kd.R_drew)); exact HO103.out⟩, ⟨bl_⟩⟩
              ·rw [if_neg c41] at H; have c41b0 : decide (t116 < 0) = false := decide_eq_false c41; clear c41; have c43b0 := eq_true (of_decide_eq_true as_ : 0 ≤ (ji37)); have c44b0 := eq_true (of_decide_eq_true as_ : (ji37) ≤ ((rdOf ByteArray.empty t101 0).size : Int)); replace H := Option.bind_eq_some_iff.mp H; obtain ⟨t119, A450, H⟩ := H; (try dsimp only at H); have A45 := Aside0.mk A450; clear A450
               as_aux_lemma =>
                have H' := Aside0.mk H; clear H; obtain ⟨Ao46, co46, eo46⟩ := Kd.R_slice HO103.out; subst eo46
                have p104 : 0 ≤ (0 : Int) := (by omega)
                have q104 : 0 < (t101.length : Int) := of_decide_eq_true as_; obtain ⟨ad104, e104, hx104_0⟩ := Kd.at_string (Kd.R_reads' HO103.out).2.2 0 p104 q104
                cases e104
                have qi104 : (0 < t101.length) = True := eq_true (by omega)
                (try rw [show ((0 : Int)).toNat = 0 from rfl] at hx104_0)
                (try rw [Addr.add_zero'] at hx104_0)
                replace p104 := eq_true p104; replace q104 := eq_true q104
                have p105 : 0 ≤ (0 : Int) := (by omega)
                have q105 : 0 < (t101.length : Int) := of_decide_eq_true as_; obtain ⟨ad105, e105, hx105_0⟩ := Kd.at_string (Kd.R_reads' HO103.out).2.2 0 p105 q105
                obtain rfl : ad104 = ad105 := (by injection e105)
                have qi105 : (0 < t101.length) = True := eq_true (by omega)
                (try rw [show ((0 : Int)).toNat = 0 from rfl] at hx105_0)
                (try rw [Addr.add_zero'] at hx105_0)
                replace p105 := eq_true p105; replace q105 := eq_true q105
                have p106 : 0 ≤ (0 : Int) := (by omega)
                have q106 : 0 < (t101.length : Int) := of_decide_eq_true as_; obtain ⟨ad106, e106, hx106_0⟩ := Kd.at_string (Kd.R_reads' HO103.out).2.2 0 p106 q106
                obtain rfl : ad104 = ad106 := (by injection e106)
                have qi106 : (0 < t101.length) = True := eq_true (by omega)
                (try rw [show ((0 : Int)).toNat = 0 from rfl] at hx106_0)
                (try rw [Addr.add_zero'] at hx106_0)
                replace p106 := eq_true p106; replace q106 := eq_true q106
                have p114 : 0 ≤ (0 : Int) := (by omega)
                have q114 : 0 < (t101.length : Int) := of_decide_eq_true as_; obtain ⟨ad114, e114, hx114_0⟩ := Kd.at_string (Kd.R_reads' HO103.out).2.2 0 p114 q114
                obtain rfl : ad104 = ad114 := (by injection e114)
                have qi114 : (0 < t101.length) = True := eq_true (by omega)
                (try rw [show ((0 : Int)).toNat = 0 from rfl] at hx114_0)
                (try rw [Addr.add_zero'] at hx114_0)
                replace p114 := eq_true p114; replace q114 := eq_true q114
                have p115 : 0 ≤ (0 : Int) := (by omega)
                have q115 : 0 < (t101.length : Int) := of_decide_eq_true as_; obtain ⟨ad115, e115, hx115_0⟩ := Kd.at_string (Kd.R_reads' HO103.out).2.2 0 p115 q115
                obtain rfl : ad104 = ad115 := (by injection e115)
                have qi115 : (0 < t101.length) = True := eq_true (by omega)
                (try rw [show ((0 : Int)).toNat = 0 from rfl] at hx115_0)
                (try rw [Addr.add_zero'] at hx115_0)
                replace p115 := eq_true p115; replace q115 := eq_true q115
                go_wp2_with (first | (go_at_call 98; (with_reducible refine (fuseeref07_Digits.calls kj1 ((rdOf ByteArray.empty t101 0).extract 0 ((ji37) : Int).toNat) t116 _ A40.out).mono ?_); rintro e w' ⟨rfl, ⟨nd, rfl⟩⟩; (try exact dn_); have p117 : 0 ≤ (0 : Int) := (by omega); have q117 : 0 < (t101.length : Int) := of_decide_eq_true as_; obtain ⟨ad117, e117, hx117_0⟩ := Kd.at_string (Kd.R_reads' HO103.out).2.2 0 p117 q117; obtain rfl : ad104 = ad117 := (by injection e117); have qi117 : (0 < t101.length) = True := eq_true (by omega); (try rw [show ((0 : Int)).toNat = 0 from rfl] at hx117_0); (try rw [Addr.add_zero'] at hx117_0); replace p117 := eq_true p117; replace q117 := eq_true q117; have p118 : 0 ≤ (0 : Int) := (by omega); have q118 : 0 < (t101.length : Int) := of_decide_eq_true as_; obtain ⟨ad118, e118, hx118_0⟩ := Kd.at_string (Kd.R_reads' HO103.out).2.2 0 p118 q118; obtain rfl : ad104 = ad118 := (by injection e118); have qi118 : (0 < t101.length) = True := eq_true (by omega); (try rw [show ((0 : Int)).toNat = 0 from rfl] at hx118_0); (try rw [Addr.add_zero'] at hx118_0); replace p118 := eq_true p118; replace q118 := eq_true q118) | (go_at_call 98; (with_reducible refine (fuseeref07_Digits.calls kj1 ((rdOf ByteArray.empty t101 0).extract ((ji37) : Int).toNat (rdOf ByteArray.empty t101 0).size) t119 _ A45.out).mono ?_); rintro e w' ⟨rfl, ⟨nd, rfl⟩⟩; (try exact dn_)))
                repeat (go_quiet (first | (go_at_call 98; (with_reducible refine (fuseeref07_Digits.calls kj1 ((rdOf ByteArray.empty t101 0).extract 0 ((ji37) : Int).toNat) t116 _ A40.out).mono ?_); rintro e w' ⟨rfl, ⟨nd, rfl⟩⟩; (try exact dn_); have p117 : 0 ≤ (0 : Int) := (by omega); have q117 : 0 < (t101.length : Int) := of_decide_eq_true as_; obtain ⟨ad117, e117, hx117_0⟩ := Kd.at_string (Kd.R_reads' HO103.out).2.2 0 p117 q117; obtain rfl : ad104 = ad117 := (by injection e117); have qi117 : (0 < t101.length) = True := eq_true (by omega); (try rw [show ((0 : Int)).toNat = 0 from rfl] at hx117_0); (try rw [Addr.add_zero'] at hx117_0); replace p117 := eq_true p117; replace q117 := eq_true q117; have p118 : 0 ≤ (0 : Int) := (by omega); have q118 : 0 < (t101.length : Int) := of_decide_eq_true as_; obtain ⟨ad118, e118, hx118_0⟩ := Kd.at_string (Kd.R_reads' HO103.out).2.2 0 p118 q118; obtain rfl : ad104 = ad118 := (by injection e118); have qi118 : (0 < t101.length) = True := eq_true (by omega); (try rw [show ((0 : Int)).toNat = 0 from rfl] at hx118_0); (try rw [Addr.add_zero'] at hx118_0); replace p118 := eq_true p118; replace q118 := eq_true q118) | (go_at_call 98; (with_reducible refine (fuseeref07_Digits.calls kj1 ((rdOf ByteArray.empty t101 0).extract ((ji37) : Int).toNat (rdOf ByteArray.empty t101 0).size) t119 _ A45.out).mono ?_); rintro e w' ⟨rfl, ⟨nd, rfl⟩⟩; (try exact dn_))); try go_wp2_with (first | (go_at_call 98; (with_reducible refine (fuseeref07_Digits.calls kj1 ((rdOf ByteArray.empty t101 0).extract 0 ((ji37) : Int).toNat) t116 _ A40.out).mono ?_); rintro e w' ⟨rfl, ⟨nd, rfl⟩⟩; (try exact dn_); have p117 : 0 ≤ (0 : Int) := (by omega); have q117 : 0 < (t101.length : Int) := of_decide_eq_true as_; obtain ⟨ad117, e117, hx117_0⟩ := Kd.at_string (Kd.R_reads' HO103.out).2.2 0 p117 q117; obtain rfl : ad104 = ad117 := (by injection e117); have qi117 : (0 < t101.length) = True := eq_true (by omega); (try rw [show ((0 : Int)).toNat = 0 from rfl] at hx117_0); (try rw [Addr.add_zero'] at hx117_0); replace p117 := eq_true p117; replace q117 := eq_true q117; have p118 : 0 ≤ (0 : Int) := (by omega); have q118 : 0 < (t101.length : Int) := of_decide_eq_true as_; obtain ⟨ad118, e118, hx118_0⟩ := Kd.at_string (Kd.R_reads' HO103.out).2.2 0 p118 q118; obtain rfl : ad104 = ad118 := (by injection e118); have qi118 : (0 < t101.length) = True := eq_true (by omega); (try rw [show ((0 : Int)).toNat = 0 from rfl] at hx118_0); (try rw [Addr.add_zero'] at hx118_0); replace p118 := eq_true p118; replace q118 := eq_true q118) | (go_at_call 98; (with_reducible refine (fuseeref07_Digits.calls kj1 ((rdOf ByteArray.empty t101 0).extract ((ji37) : Int).toNat (rdOf ByteArray.empty t101 0).size) t119 _ A45.out).mono ?_); rintro e w' ⟨rfl, ⟨nd, rfl⟩⟩; (try exact dn_))))
                go_meet
                case rel => exact ⟨_, (decide (t119 < 0)), rs_, H', ⟨by have := HJ1.out; first | omega | exact Nat.le_refl _⟩, ⟨by (with_reducible repeat (first | apply Kd.R_alloc | apply Kd.R_drewN | apply Kd.R_drew)); exact HO103.out⟩, ⟨bl_⟩⟩
             ·rw [if_neg c39] at H; exact absurd H (by simp)
            ·rw [if_neg c38] at H; exact absurd H (by simp)
        ·rw [if_neg c17] at H; exact absurd H (by simp)
      case rest =>
       clear HC13; (try clear c1); (try clear p1); (try clear q1); (try clear hx1); (try clear qi1); (try clear c2); (try clear p2); (try clear q2); (try clear hx2); (try clear qi2); (try clear c3); (try clear c3b0); (try clear c3b1); (try clear c4); (try clear c5); (try clear c5b0); (try clear c6); (try clear c6b0); (try clear p6); (try clear p7); (try clear q7); (try clear hx7); (try clear c8); (try clear c10); (try clear c10b0); (try clear c10b1); (try clear p10); (try clear q10); (try clear hx10); (try clear qi10); (try clear c11); (try clear c11b0); (try clear c11b1); (try clear p11); (try clear q11); (try clear hx11); (try clear qi11); (try clear c15); (try clear c15b0); (try clear c15b1); (try clear c17); (try clear c17b0); (try clear c17b1); (try clear c18); (try clear c18b0); (try clear c18b1); (try clear c20); (try clear c20b0); (try clear c20b1); (try clear c22); (try clear c22b0); (try clear c22b1); (try clear c23); (try clear c23b0); (try clear c23b1); (try clear p24); (try clear q24); (try clear hx24); (try clear qi24); (try clear c25); (try clear c25b0); (try clear c25b1); (try clear c28); (try clear c28b0); (try clear c28b1); (try clear c29); (try clear c29b0); (try clear c29b1); (try clear c31); (try clear c31b0); (try clear c33); (try clear c33b0); (try clear c34); (try clear c34b0); (try clear c38); (try clear c38b0); (try clear c38b1); (try clear c39); (try clear c39b0); (try clear c39b1); (try clear c41); (try clear c41b0); (try clear c43); (try clear c43b0); (try clear c44); (try clear c44b0); (try clear hx104_0); (try clear hx105_0); (try clear hx106_0); (try clear hx107_0); (try clear hx108_0); (try clear hx109_0); (try clear hx111_0); (try clear hx112_0); (try clear hx114_0); (try clear hx115_0); (try clear hx117_0); (try clear hx118_0); (try clear p104); (try clear p105); (try clear p106); (try clear p107); (try clear p108); (try clear p109); (try clear p111); (try clear p112); (try clear p114); (try clear p115); (try clear p117); (try clear p118); (try clear p2); (try clear p24); (try clear p6); (try clear p7); (try clear q104); (try clear q105); (try clear q106); (try clear q107); (try clear q108); (try clear q109); (try clear q111); (try clear q112); (try clear q114); (try clear q115); (try clear q117); (try clear q118); (try clear q24); (try clear q7); obtain ⟨kq, x82_12, rfl, HA, HJ12, HO_4, HB⟩ := hcut
       cases kq with
       | zero => exact absurd HA.out (by simp [fuseeref43_Long.j1])
       | succ kj12 =>
        have H := HA.out; clear HA; simp only [fuseeref43_Long.j1] at H
        by_cases c47 : x82_12 = true
        ·subst c47
         have H1 : (some (0, 3)) = some (r1, r2) := by rw [if_pos rfl] at H; exact H
         clear H; have H := H1; clear H1
         as_aux_lemma =>
          simp only [Option.some.injEq, Prod.mk.injEq] at H; obtain ⟨rfl, rfl⟩ := H
          go_wp2
          repeat (go_quiet (fail); try go_wp2)
          go_ret2
          exact ⟨by first | rfl | (simp [errW_none, errW_some] <;> rfl) | (simp only [← hji9]; first | rfl | (simp [errW_none, errW_some] <;> rfl)) | (simp [*, errW_none, errW_some] <;> rfl), by repeat (first | (with_reducible first | exact HB.out | apply below_alloc | apply pw_below_drewN | apply below_drew1) | exact HB.out)⟩
        ·replace c47 := Bool.eq_false_iff.mpr c47; subst c47
         have H1 : (if 0 < (t101.length : Int) then (if 0 ≤ (wrap64 (((rdOf ByteArray.empty t101 0).size : Int) - 1)) then (if (wrap64 (((rdOf ByteArray.empty t101 0).size : Int) - 1)) ≤ ((rdOf ByteArray.empty t101 0).size : Int) then ((fuseeref07_Digits.f kj12 ((rdOf ByteArray.empty t101 0).extract 0 ((wrap64 (((rdOf ByteArray.empty t101 0).size : Int) - 1)) : Int).toNat)).bind fun t122 => ((fuseeref07_Digits.f kj12 ((rdOf ByteArray.empty t101 0).extract ((wrap64 (((rdOf ByteArray.empty t101 0).size : Int) - 1)) : Int).toNat (rdOf ByteArray.empty t101 0).size)).bind fun t125 => (if (t101.length : Int) = 2 then (if 1 < (t101.length : Int) then (if ((rdOf ByteArray.empty t101 1).size : Int) < 1 then (fuseeref43_Long.j2 kj12 (wrap64 ((wrap64 (10 * t122)) + t125)) (rdOf ByteArray.empty t101 1) true) else (if ((rdOf ByteArray.empty t101 1).size : Int) > 9 then (fuseeref43_Long.j2 kj12 (wrap64 ((wrap64 (10 * t122)) + t125)) (rdOf ByteArray.empty t101 1) true) else (if 0 ≤ (wrap64 (((rdOf ByteArray.empty t101 1).size : Int) - 1)) then (if (wrap64 (((rdOf ByteArray.empty t101 1).size : Int) - 1)) < ((rdOf ByteArray.empty t101 1).size : Int) then (if (bt (rdOf ByteArray.empty t101 1) (wrap64 (((rdOf ByteArray.empty t101 1).size : Int) - 1))) = 48 then (fuseeref43_Long.j2 kj12 (wrap64 ((wrap64 (10 * t122)) + t125)) (rdOf ByteArray.empty t101 1) true) else ((fuseeref07_Digits.f kj12 (rdOf ByteArray.empty t101 1)).bind fun t127 => (fuseeref43_Long.j2 kj12 (wrap64 ((wrap64 (10 * t122)) + t125)) (rdOf ByteArray.empty t101 1) (decide (t127 < 0))))) else (none)) else (none)))) else (none)) else (if (wrap64 ((wrap64 (10 * t122)) + t125)) > 9223372036 then (some (0, 3)) else (if (wrap64 ((wrap64 (10 * t122)) + t125)) = 9223372036 then (some (wrap64 ((wrap64 (1000000000 * (wrap64 ((wrap64 (10 * t122)) + t125)))) + 0), 0)) else (some (wrap64 ((wrap64 (1000000000 * (wrap64 ((wrap64 (10 * t122)) + t125)))) + 0), 0))))))) else (none)) else (none)) else (none)) = some (r1, r2) := by rw [if_neg (show ¬ (false = true) by decide)] at H; exact H
         clear H; have H := H1; clear H1
         by_cases c48 : 0 < (t101.length : Int)
         ·rw [if_pos c48] at H; have c48b0 : decide (0 < (t101.length : Int)) = true := decide_eq_true c48; have c48b1 : decide (0 < t101.length) = true := decide_eq_true (by omega); clear c48
          obtain ⟨ji49, hji49⟩ : ∃ j_ : Int, (wrap64 (((rdOf ByteArray.empty t101 0).size : Int) - 1)) = j_ := ⟨_, rfl⟩
          replace H : (if 0 ≤ (ji49) then (if (ji49) ≤ ((rdOf ByteArray.empty t101 0).size : Int) then ((fuseeref07_Digits.f kj12 ((rdOf ByteArray.empty t101 0).extract 0 ((ji49) : Int).toNat)).bind fun t122 => ((fuseeref07_Digits.f kj12 ((rdOf ByteArray.empty t101 0).extract ((ji49) : Int).toNat (rdOf ByteArray.empty t101 0).size)).bind fun t125 => (if (t101.length : Int) = 2 then (if 1 < (t101.length : Int) then (if ((rdOf ByteArray.empty t101 1).size : Int) < 1 then (fuseeref43_Long.j2 kj12 (wrap64 ((wrap64 (10 * t122)) + t125)) (rdOf ByteArray.empty t101 1) true) else (if ((rdOf ByteArray.empty t101 1).size : Int) > 9 then (fuseeref43_Long.j2 kj12 (wrap64 ((wrap64 (10 * t122)) + t125)) (rdOf ByteArray.empty t101 1) true) else (if 0 ≤ (wrap64 (((rdOf ByteArray.empty t101 1).size : Int) - 1)) then (if (wrap64 (((rdOf ByteArray.empty t101 1).size : Int) - 1)) < ((rdOf ByteArray.empty t101 1).size : Int) then (if (bt (rdOf ByteArray.empty t101 1) (wrap64 (((rdOf ByteArray.empty t101 1).size : Int) - 1))) = 48 then (fuseeref43_Long.j2 kj12 (wrap64 ((wrap64 (10 * t122)) + t125)) (rdOf ByteArray.empty t101 1) true) else ((fuseeref07_Digits.f kj12 (rdOf ByteArray.empty t101 1)).bind fun t127 => (fuseeref43_Long.j2 kj12 (wrap64 ((wrap64 (10 * t122)) + t125)) (rdOf ByteArray.empty t101 1) (decide (t127 < 0))))) else (none)) else (none)))) else (none)) else (if (wrap64 ((wrap64 (10 * t122)) + t125)) > 9223372036 then (some (0, 3)) else (if (wrap64 ((wrap64 (10 * t122)) + t125)) = 9223372036 then (some (wrap64 ((wrap64 (1000000000 * (wrap64 ((wrap64 (10 * t122)) + t125)))) + 0), 0)) else (some (wrap64 ((wrap64 (1000000000 * (wrap64 ((wrap64 (10 * t122)) + t125)))) + 0), 0))))))) else (none)) else (none)) = some (r1, r2) := by first | (rw [hji49] at H; exact H) | (simp only [hji49] at H ⊢; exact H)
          have hji49w : (IntKind.i64.wrap (((rdOf ByteArray.empty t101 0).size : Int) - 1)) = ji49 := (i64_w _).trans hji49
          by_cases c50 : 0 ≤ (ji49)
          ·rw [if_pos c50] at H; have c50b0 := eq_true c50; have c50b1 : decide (0 ≤ (ji49)) = true := decide_eq_true c50; clear c50
           by_cases c51 : (ji49) ≤ ((rdOf ByteArray.empty t101 0).size : Int)
           ·rw [if_pos c51] at H; have c51b0 := eq_true c51; have c51b1 : decide ((ji49) ≤ ((rdOf ByteArray.empty t101 0).size : Int)) = true := decide_eq_true c51; clear c51; replace H := Option.bind_eq_some_iff.mp H; obtain ⟨t122, A520, H⟩ := H; (try dsimp only at H); have A52 := Aside0.mk A520; clear A520; have c53b0 := eq_true (of_decide_eq_true as_ : 0 ≤ (ji49)); have c54b0 := eq_true (of_decide_eq_true as_ : (ji49) ≤ ((rdOf ByteArray.empty t101 0).size : Int)); replace H := Option.bind_eq_some_iff.mp H; obtain ⟨t125, A550, H⟩ := H; (try dsimp only at H); have A55 := Aside0.mk A550; clear A550
            by_cases c56 : (t101.length : Int) = 2
            ·rw [if_pos c56] at H; have c56b0 : ((t101.length : Int) == 2) = true := beq_iff_eq.mpr c56; have c56b1 : ((t101.length : Int) != 2) = false := bne_eq_false_iff_eq.mpr c56; clear c56
             by_cases c57 : 1 < (t101.length : Int)
             ·rw [if_pos c57] at H; have c57b0 : decide (1 < (t101.length : Int)) = true := decide_eq_true c57; have c57b1 : decide (1 < t101.length) = true := decide_eq_true (by omega); clear c57; have HC58 := Aside0.mk H; clear H; obtain ⟨Ao59, co59, eo59⟩ := Kd.R_slice HO_4.out; subst eo59
              have p120 : 0 ≤ (0 : Int) := (by omega)
              have q120 : 0 < (t101.length : Int) := of_decide_eq_true as_; obtain ⟨ad120, e120, hx120_0⟩ := Kd.at_string (Kd.R_reads' HO_4.out).2.2 0 p120 q120
              cases e120
              have qi120 : (0 < t101.length) = True := eq_true (by omega)
              (try rw [show ((0 : Int)).toNat = 0 from rfl] at hx120_0)
              (try rw [Addr.add_zero'] at hx120_0)
              replace p120 := eq_true p120; replace q120 := eq_true q120
              have p121 : 0 ≤ (0 : Int) := (by omega)
              have q121 : 0 < (t101.length : Int) := of_decide_eq_true as_; obtain ⟨ad121, e121, hx121_0⟩ := Kd.at_string (Kd.R_reads' HO_4.out).2.2 0 p121 q121
              obtain rfl : ad120 = ad121 := (by injection e121)
              have qi121 : (0 < t101.length) = True := eq_true (by omega)
              (try rw [show ((0 : Int)).toNat = 0 from rfl] at hx121_0)
              (try rw [Addr.add_zero'] at hx121_0)
              replace p121 := eq_true p121; replace q121 := eq_true q121
              go_upto_region 10 with (first | (go_at_call 98; (with_reducible refine (fuseeref07_Digits.calls kj12 ((rdOf ByteArray.empty t101 0).extract 0 ((ji49) : Int).toNat) t122 _ A52.out).mono ?_); rintro e w' ⟨rfl, ⟨nd, rfl⟩⟩; (try exact dn_); have p123 : 0 ≤ (0 : Int) := (by omega); have q123 : 0 < (t101.length : Int) := of_decide_eq_true as_; obtain ⟨ad123, e123, hx123_0⟩ := Kd.at_string (Kd.R_reads' HO_4.out).2.2 0 p123 q123; obtain rfl : ad120 = ad123 := (by injection e123); have qi123 : (0 < t101.length) = True := eq_true (by omega); (try rw [show ((0 : Int)).toNat = 0 from rfl] at hx123_0); (try rw [Addr.add_zero'] at hx123_0); replace p123 := eq_true p123; replace q123 := eq_true q123; have p124 : 0 ≤ (0 : Int) := (by omega); have q124 : 0 < (t101.length : Int) := of_decide_eq_true as_; obtain ⟨ad124, e124, hx124_0⟩ := Kd.at_string (Kd.R_reads' HO_4.out).2.2 0 p124 q124; obtain rfl : ad120 = ad124 := (by injection e124); have qi124 : (0 < t101.length) = True := eq_true (by omega); (try rw [show ((0 : Int)).toNat = 0 from rfl] at hx124_0); (try rw [Addr.add_zero'] at hx124_0); replace p124 := eq_true p124; replace q124 := eq_true q124) | (go_at_call 98; (with_reducible refine (fuseeref07_Digits.calls kj12 ((rdOf ByteArray.empty t101 0).extract ((ji49) : Int).toNat (rdOf ByteArray.empty t101 0).size) t125 _ A55.out).mono ?_); rintro e w' ⟨rfl, ⟨nd, rfl⟩⟩; (try exact dn_); have p126 : 0 ≤ (1 : Int) := (by omega); have q126 : 1 < (t101.length : Int) := of_decide_eq_true as_; obtain ⟨ad126, e126, hx126_0⟩ := Kd.at_string (Kd.R_reads' HO_4.out).2.2 1 p126 q126; obtain rfl : ad120 = ad126 := (by injection e126); (try simp only [show (1 : Int).toNat = 1 from rfl, Nat.reduceMul, Nat.reduceEqDiff, Go.Addr.add, ↓reduceIte] at hx126_0); have qi126 : (1 < t101.length) = True := eq_true (by omega); (try rw [show ((1 : Int)).toNat = 1 from rfl] at hx126_0); replace p126 := eq_true p126; replace q126 := eq_true q126))
              repeat (go_quiet (first | (go_at_call 98; (with_reducible refine (fuseeref07_Digits.calls kj12 ((rdOf ByteArray.empty t101 0).extract 0 ((ji49) : Int).toNat) t122 _ A52.out).mono ?_); rintro e w' ⟨rfl, ⟨nd, rfl⟩⟩; (try exact dn_); have p123 : 0 ≤ (0 : Int) := (by omega); have q123 : 0 < (t101.length : Int) := of_decide_eq_true as_; obtain ⟨ad123, e123, hx123_0⟩ := Kd.at_string (Kd.R_reads' HO_4.out).2.2 0 p123 q123; obtain rfl : ad120 = ad123 := (by injection e123); have qi123 : (0 < t101.length) = True := eq_true (by omega); (try rw [show ((0 : Int)).toNat = 0 from rfl] at hx123_0); (try rw [Addr.add_zero'] at hx123_0); replace p123 := eq_true p123; replace q123 := eq_true q123; have p124 : 0 ≤ (0 : Int) := (by omega); have q124 : 0 < (t101.length : Int) := of_decide_eq_true as_; obtain ⟨ad124, e124, hx124_0⟩ := Kd.at_string (Kd.R_reads' HO_4.out).2.2 0 p124 q124; obtain rfl : ad120 = ad124 := (by injection e124); have qi124 : (0 < t101.length) = True := eq_true (by omega); (try rw [show ((0 : Int)).toNat = 0 from rfl] at hx124_0); (try rw [Addr.add_zero'] at hx124_0); replace p124 := eq_true p124; replace q124 := eq_true q124) | (go_at_call 98; (with_reducible refine (fuseeref07_Digits.calls kj12 ((rdOf ByteArray.empty t101 0).extract ((ji49) : Int).toNat (rdOf ByteArray.empty t101 0).size) t125 _ A55.out).mono ?_); rintro e w' ⟨rfl, ⟨nd, rfl⟩⟩; (try exact dn_); have p126 : 0 ≤ (1 : Int) := (by omega); have q126 : 1 < (t101.length : Int) := of_decide_eq_true as_; obtain ⟨ad126, e126, hx126_0⟩ := Kd.at_string (Kd.R_reads' HO_4.out).2.2 1 p126 q126; obtain rfl : ad120 = ad126 := (by injection e126); (try simp only [show (1 : Int).toNat = 1 from rfl, Nat.reduceMul, Nat.reduceEqDiff, Go.Addr.add, ↓reduceIte] at hx126_0); have qi126 : (1 < t101.length) = True := eq_true (by omega); (try rw [show ((1 : Int)).toNat = 1 from rfl] at hx126_0); replace p126 := eq_true p126; replace q126 := eq_true q126)); go_upto_region 10 with (first | (go_at_call 98; (with_reducible refine (fuseeref07_Digits.calls kj12 ((rdOf ByteArray.empty t101 0).extract 0 ((ji49) : Int).toNat) t122 _ A52.out).mono ?_); rintro e w' ⟨rfl, ⟨nd, rfl⟩⟩; (try exact dn_); have p123 : 0 ≤ (0 : Int) := (by omega); have q123 : 0 < (t101.length : Int) := of_decide_eq_true as_; obtain ⟨ad123, e123, hx123_0⟩ := Kd.at_string (Kd.R_reads' HO_4.out).2.2 0 p123 q123; obtain rfl : ad120 = ad123 := (by injection e123); have qi123 : (0 < t101.length) = True := eq_true (by omega); (try rw [show ((0 : Int)).toNat = 0 from rfl] at hx123_0); (try rw [Addr.add_zero'] at hx123_0); replace p123 := eq_true p123; replace q123 := eq_true q123; have p124 : 0 ≤ (0 : Int) := (by omega); have q124 : 0 < (t101.length : Int) := of_decide_eq_true as_; obtain ⟨ad124, e124, hx124_0⟩ := Kd.at_string (Kd.R_reads' HO_4.out).2.2 0 p124 q124; obtain rfl : ad120 = ad124 := (by injection e124); have qi124 : (0 < t101.length) = True := eq_true (by omega); (try rw [show ((0 : Int)).toNat = 0 from rfl] at hx124_0); (try rw [Addr.add_zero'] at hx124_0); replace p124 := eq_true p124; replace q124 := eq_true q124) | (go_at_call 98; (with_reducible refine (fuseeref07_Digits.calls kj12 ((rdOf ByteArray.empty t101 0).extract ((ji49) : Int).toNat (rdOf ByteArray.empty t101 0).size) t125 _ A55.out).mono ?_); rintro e w' ⟨rfl, ⟨nd, rfl⟩⟩; (try exact dn_); have p126 : 0 ≤ (1 : Int) := (by omega); have q126 : 1 < (t101.length : Int) := of_decide_eq_true as_; obtain ⟨ad126, e126, hx126_0⟩ := Kd.at_string (Kd.R_reads' HO_4.out).2.2 1 p126 q126; obtain rfl : ad120 = ad126 := (by injection e126); (try simp only [show (1 : Int).toNat = 1 from rfl, Nat.reduceMul, Nat.reduceEqDiff, Go.Addr.add, ↓reduceIte] at hx126_0); have qi126 : (1 < t101.length) = True := eq_true (by omega); (try rw [show ((1 : Int)).toNat = 1 from rfl] at hx126_0); replace p126 := eq_true p126; replace q126 := eq_true q126)))
              (try simp only [Act.put, List.setIfInBounds_toArray, List.set_cons_zero, List.set_cons_succ])
              go_cut [131] (fun v131 wc => ∃ (kq : Nat) (x131_57 : Bool), v131 = .bool x131_57 ∧ Aside0 (fuseeref43_Long.j2 kq (wrap64 ((wrap64 (10 * t122)) + t125)) (rdOf ByteArray.empty t101 1) x131_57 = some (r1, r2)) ∧ Aside0 (kq ≤ kj12) ∧ Aside0 (Below w.heap.size w wc))
              case first =>
               have H := HC58.out; clear HC58
               by_cases c60 : ((rdOf ByteArray.empty t101 1).size : Int) < 1
               ·rw [if_pos c60] at H; have c60b0 : decide (((rdOf ByteArray.empty t101 1).size : Int) < 1) = true := decide_eq_true c60; have c60b1 : decide ((rdOf ByteArray.empty t101 1).size < 1) = true := decide_eq_true (by omega); clear c60
                (first | rw [c60b0] | (simp only [i64_w, i32_w]; rw [c60b0]) | skip)
                as_aux_lemma =>
                 have H' := Aside0.mk H; clear H
                 go_wp2
                 repeat (go_quiet (fail); try go_wp2)
                 go_meet
                 case rel => exact ⟨_, (true), rs_, H', ⟨by have := HJ1.out; have := HJ12.out; first | omega | exact Nat.le_refl _⟩, ⟨bl_⟩⟩
               ·rw [if_neg c60] at H; have c60b0 : decide (((rdOf ByteArray.empty t101 1).size : Int) < 1) = false := decide_eq_false c60; have c60b1 : decide ((rdOf ByteArray.empty t101 1).size < 1) = false := decide_eq_false (by omega); clear c60
                (first | rw [c60b0] | (simp only [i64_w, i32_w]; rw [c60b0]) | skip)
                by_cases c61 : ((rdOf ByteArray.empty t101 1).size : Int) > 9
                ·rw [if_pos c61] at H; have c61b0 : decide (9 < ((rdOf ByteArray.empty t101 1).size : Int)) = true := decide_eq_true c61; have c61b1 : decide (9 < (rdOf ByteArray.empty t101 1).size) = true := decide_eq_true (by omega); clear c61
                 as_aux_lemma =>
                  have H' := Aside0.mk H; clear H
                  go_wp2
                  repeat (go_quiet (fail); try go_wp2)
                  go_meet
                  case rel => exact ⟨_, (true), rs_, H', ⟨by have := HJ1.out; have := HJ12.out; first | omega | exact Nat.le_refl _⟩, ⟨bl_⟩⟩
                ·rw [if_neg c61] at H; have c61b0 : decide (9 < ((rdOf ByteArray.empty t101 1).size : Int)) = false := decide_eq_false c61; have c61b1 : decide (9 < (rdOf ByteArray.empty t101 1).size) = false := decide_eq_false (by omega); clear c61
                 obtain ⟨ji62, hji62⟩ : ∃ j_ : Int, (wrap64 (((rdOf ByteArray.empty t101 1).size : Int) - 1)) = j_ := ⟨_, rfl⟩
                 replace H : (if 0 ≤ (ji62) then (if (ji62) < ((rdOf ByteArray.empty t101 1).size : Int) then (if (bt (rdOf ByteArray.empty t101 1) (ji62)) = 48 then (fuseeref43_Long.j2 kj12 (wrap64 ((wrap64 (10 * t122)) + t125)) (rdOf ByteArray.empty t101 1) true) else ((fuseeref07_Digits.f kj12 (rdOf ByteArray.empty t101 1)).bind fun t127 => (fuseeref43_Long.j2 kj12 (wrap64 ((wrap64 (10 * t122)) + t125)) (rdOf ByteArray.empty t101 1) (decide (t127 < 0))))) else (none)) else (none)) = some (r1, r2) := by first | (rw [hji62] at H; exact H) | (simp only [hji62] at H ⊢; exact H)
                 have hji62w : (IntKind.i64.wrap (((rdOf ByteArray.empty t101 1).size : Int) - 1)) = ji62 := (i64_w _).trans hji62
                 by_cases c63 : 0 ≤ (ji62)
                 ·rw [if_pos c63] at H; have c63b0 : decide (0 ≤ (ji62)) = true := decide_eq_true c63; clear c63
                  by_cases c64 : (ji62) < ((rdOf ByteArray.empty t101 1).size : Int)
                  ·rw [if_pos c64] at H; have c64b0 : decide ((ji62) < ((rdOf ByteArray.empty t101 1).size : Int)) = true := decide_eq_true c64; clear c64
                   by_cases c66 : (bt (rdOf ByteArray.empty t101 1) (ji62)) = 48
                   ·rw [if_pos c66] at H; have c66b0 : ((bt (rdOf ByteArray.empty t101 1) (ji62)) == 48) = true := beq_iff_eq.mpr c66; have c66b1 : ((bt (rdOf ByteArray.empty t101 1) (ji62)) != 48) = false := bne_eq_false_iff_eq.mpr c66; clear c66
                    as_aux_lemma =>
                     have H' := Aside0.mk H; clear H; have p65 : 0 ≤ ((ji62) : Int) := of_decide_eq_true as_; have q65 : (ji62) < ((rdOf ByteArray.empty t101 1).size : Int) := of_decide_eq_true as_; have hx65 := bt_at (rdOf ByteArray.empty t101 1) (ji62); replace p65 := eq_true p65; replace q65 := eq_true q65
                     go_wp2
                     repeat (go_quiet (fail); try go_wp2)
                     go_meet
                     case rel => exact ⟨_, (true), rs_, H', ⟨by have := HJ1.out; have := HJ12.out; first | omega | exact Nat.le_refl _⟩, ⟨bl_⟩⟩
                   ·rw [if_neg c66] at H; have c66b0 : ((bt (rdOf ByteArray.empty t101 1) (ji62)) == 48) = false := beq_eq_false_iff_ne.mpr c66; have c66b1 : ((bt (rdOf ByteArray.empty t101 1) (ji62)) != 48) = true := bne_iff_ne.mpr c66; replace H := Option.bind_eq_some_iff.mp H; obtain ⟨t127, A670, H⟩ := H; (try dsimp only at H); have A67 := Aside0.mk A670; clear A670
                    as_aux_lemma =>
                     have H' := Aside0.mk H; clear H; have p65 : 0 ≤ ((ji62) : Int) := of_decide_eq_true as_; have q65 : (ji62) < ((rdOf ByteArray.empty t101 1).size : Int) := of_decide_eq_true as_; have hx65 := bt_at (rdOf ByteArray.empty t101 1) (ji62); replace p65 := eq_true p65; replace q65 := eq_true q65
                     go_wp2_with (first | (go_at_call 98; (with_reducible refine (fuseeref07_Digits.calls kj12 (rdOf ByteArray.empty t101 1) t127 _ A67.out).mono ?_); rintro e w' ⟨rfl, ⟨nd, rfl⟩⟩; (try exact dn_)))
                     repeat (go_quiet (first | (go_at_call 98; (with_reducible refine (fuseeref07_Digits.calls kj12 (rdOf ByteArray.empty t101 1) t127 _ A67.out).mono ?_); rintro e w' ⟨rfl, ⟨nd, rfl⟩⟩; (try exact dn_))); try go_wp2_with (first | (go_at_call 98; (with_reducible refine (fuseeref07_Digits.calls kj12 (rdOf ByteArray.empty t101 1) t127 _ A67.out).mono ?_); rintro e w' ⟨rfl, ⟨nd, rfl⟩⟩; (try exact dn_))))
                     go_meet
                     case rel => exact ⟨_, (decide (t127 < 0)), rs_, H', ⟨by have := HJ1.out; have := HJ12.out; first | omega | exact Nat.le_refl _⟩, ⟨bl_⟩⟩
                  ·rw [if_neg c64] at H; exact absurd H (by simp)
                 ·rw [if_neg c63] at H; exact absurd H (by simp)
              case rest =>
               clear HC58; (try clear c1); (try clear p1); (try clear q1); (try clear hx1); (try clear qi1); (try clear c2); (try clear p2); (try clear q2); (try clear hx2); (try clear qi2); (try clear c3); (try clear c3b0); (try clear c3b1); (try clear c4); (try clear c5); (try clear c5b0); (try clear c6); (try clear c6b0); (try clear p6); (try clear q6); (try clear hx6); (try clear p7); (try clear q7); (try clear hx7); (try clear c8); (try clear c10); (try clear c10b0); (try clear c10b1); (try clear p10); (try clear q10); (try clear hx10); (try clear qi10); (try clear c11); (try clear c11b0); (try clear c11b1); (try clear p11); (try clear q11); (try clear hx11); (try clear qi11); (try clear p12); (try clear q12); (try clear hx12); (try clear qi12); (try clear c15); (try clear c15b0); (try clear c15b1); (try clear c17); (try clear c17b0); (try clear c17b1); (try clear c18); (try clear c18b0); (try clear c18b1); (try clear c20); (try clear c20b0); (try clear c20b1); (try clear c22); (try clear c22b0); (try clear c22b1); (try clear c23); (try clear c23b0); (try clear c23b1); (try clear p24); (try clear q24); (try clear hx24); (try clear qi24); (try clear c25); (try clear c25b0); (try clear c25b1); (try clear c28); (try clear c28b0); (try clear c28b1); (try clear c29); (try clear c29b0); (try clear c29b1); (try clear c31); (try clear c31b0); (try clear c33); (try clear c33b0); (try clear c34); (try clear c34b0); (try clear c38); (try clear c38b0); (try clear c38b1); (try clear c39); (try clear c39b0); (try clear c39b1); (try clear c41); (try clear c41b0); (try clear c43); (try clear c43b0); (try clear c44); (try clear c44b0); (try clear c47); (try clear c48); (try clear c48b0); (try clear c48b1); (try clear c50); (try clear c50b0); (try clear c50b1); (try clear c51); (try clear c51b0); (try clear c51b1); (try clear c53); (try clear c53b0); (try clear c54); (try clear c54b0); (try clear c56); (try clear c56b0); (try clear c56b1); (try clear c57); (try clear c57b0); (try clear c57b1); (try clear c60); (try clear c60b0); (try clear c60b1); (try clear c61); (try clear c61b0); (try clear c61b1); (try clear c63); (try clear c63b0); (try clear c64); (try clear c64b0); (try clear p64); (try clear p65); (try clear q65); (try clear hx65); (try clear c66); (try clear c66b0); (try clear c66b1); (try clear hx104_0); (try clear hx105_0); (try clear hx106_0); (try clear hx107_0); (try clear hx108_0); (try clear hx109_0); (try clear hx111_0); (try clear hx112_0); (try clear hx114_0); (try clear hx115_0); (try clear hx117_0); (try clear hx118_0); (try clear hx120_0); (try clear hx121_0); (try clear hx123_0); (try clear hx124_0); (try clear hx126_0); (try clear p1); (try clear p10); (try clear p104); (try clear p105); (try clear p106); (try clear p107); (try clear p108); (try clear p109); (try clear p11); (try clear p111); (try clear p112); (try clear p114); (try clear p115); (try clear p117); (try clear p118); (try clear p120); (try clear p121); (try clear p123); (try clear p124); (try clear p126); (try clear p2); (try clear p24); (try clear p6); (try clear p65); (try clear p7); (try clear q1); (try clear q10); (try clear q104); (try clear q105); (try clear q106); (try clear q107); (try clear q108); (try clear q109); (try clear q11); (try clear q111); (try clear q112); (try clear q114); (try clear q115); (try clear q117); (try clear q118); (try clear q120); (try clear q121); (try clear q123); (try clear q124); (try clear q126); (try clear q2); (try clear q24); (try clear q65); (try clear q7); obtain ⟨kq, x131_57, rfl, HA, HJ57, HB⟩ := hcut
               cases kq with
               | zero => exact absurd HA.out (by simp [fuseeref43_Long.j2])
               | succ kj57 =>
                have H := HA.out; clear HA; simp only [fuseeref43_Long.j2] at H
                by_cases c68 : x131_57 = true
                ·subst c68
                 have H1 : (some (0, 3)) = some (r1, r2) := by rw [if_pos rfl] at H; exact H
                 clear H; have H := H1; clear H1
                 as_aux_lemma =>
                  simp only [Option.some.injEq, Prod.mk.injEq] at H; obtain ⟨rfl, rfl⟩ := H
                  go_wp2
                  repeat (go_quiet (fail); try go_wp2)
                  go_ret2
                  exact ⟨by first | rfl | (simp [errW_none, errW_some] <;> rfl) | (simp only [← hji9, ← hji49]; first | rfl | (simp [errW_none, errW_some] <;> rfl)) | (simp [*, errW_none, errW_some] <;> rfl), by repeat (first | (with_reducible first | exact HB.out | apply below_alloc | apply pw_below_drewN | apply below_drew1) | exact HB.out)⟩
                ·replace c68 := Bool.eq_false_iff.mpr c68; subst c68
                 have H1 : ((fuseeref07_Digits.f kj57 (rdOf ByteArray.empty t101 1)).bind fun t128 => (fuseeref43_Long.l0 kj57 (wrap64 ((wrap64 (10 * t122)) + t125)) t128 ((rdOf ByteArray.empty t101 1).size : Int))) = some (r1, r2) := by rw [if_neg (show ¬ (false = true) by decide)] at H; exact H
                 clear H; have H := H1; clear H1; replace H := Option.bind_eq_some_iff.mp H; obtain ⟨t128, A690, H⟩ := H; (try dsimp only at H); have A69 := Aside0.mk A690; clear A690; have H' := Aside0.mk H; clear H
                 go_wp2_with (first | (go_at_call 98; (with_reducible refine (fuseeref07_Digits.calls kj57 (rdOf ByteArray.empty t101 1) t128 _ A69.out).mono ?_); rintro e w' ⟨rfl, ⟨nd, rfl⟩⟩; (try exact dn_)))
                 repeat (go_quiet (first | (go_at_call 98; (with_reducible refine (fuseeref07_Digits.calls kj57 (rdOf ByteArray.empty t101 1) t128 _ A69.out).mono ?_); rintro e w' ⟨rfl, ⟨nd, rfl⟩⟩; (try exact dn_))); try go_wp2_with (first | (go_at_call 98; (with_reducible refine (fuseeref07_Digits.calls kj57 (rdOf ByteArray.empty t101 1) t128 _ A69.out).mono ?_); rintro e w' ⟨rfl, ⟨nd, rfl⟩⟩; (try exact dn_))))
                 go_loopg [6, 8] kj57 (fun kq v6 v8 w' => ∃ (x6_4 : Int) (x8_4 : Int), v6 = .int .i64 x6_4 ∧ v8 = .int .i64 x8_4 ∧ Aside0 (fuseeref43_Long.l0 kq (wrap64 ((wrap64 (10 * t122)) + t125)) x6_4 x8_4 = some (r1, r2)) ∧ Aside0 (kq ≤ kj57) ∧ Aside0 (Below w.heap.size w w'))
                 case atStart => exact ⟨(t128), (((rdOf ByteArray.empty t101 1).size : Int)), rs_, rs_, H', ⟨Nat.le_refl _⟩, ⟨bl_⟩⟩
                 case round =>
                  clear H'; (try clear c1); (try clear p1); (try clear q1); (try clear hx1); (try clear qi1); (try clear c2); (try clear p2); (try clear q2); (try clear hx2); (try clear qi2); (try clear c3); (try clear c3b0); (try clear c3b1); (try clear c4); (try clear c5); (try clear c5b0); (try clear c6); (try clear c6b0); (try clear p6); (try clear q6); (try clear hx6); (try clear p7); (try clear q7); (try clear hx7); (try clear c8); (try clear c10); (try clear c10b0); (try clear c10b1); (try clear p10); (try clear q10); (try clear hx10); (try clear qi10); (try clear c11); (try clear c11b0); (try clear c11b1); (try clear p11); (try clear q11); (try clear hx11); (try clear qi11); (try clear p12); (try clear q12); (try clear hx12); (try clear qi12); (try clear c15); (try clear c15b0); (try clear c15b1); (try clear c17); (try clear c17b0); (try clear c17b1); (try clear c18); (try clear c18b0); (try clear c18b1); (try clear c20); (try clear c20b0); (try clear c20b1); (try clear c22); (try clear c22b0); (try clear c22b1); (try clear c23); (try clear c23b0); (try clear c23b1); (try clear p24); (try clear q24); (try clear hx24); (try clear qi24); (try clear c25); (try clear c25b0); (try clear c25b1); (try clear c28); (try clear c28b0); (try clear c28b1); (try clear c29); (try clear c29b0); (try clear c29b1); (try clear c31); (try clear c31b0); (try clear c33); (try clear c33b0); (try clear c34); (try clear c34b0); (try clear c38); (try clear c38b0); (try clear c38b1); (try clear c39); (try clear c39b0); (try clear c39b1); (try clear c41); (try clear c41b0); (try clear c43); (try clear c43b0); (try clear c44); (try clear c44b0); (try clear c47); (try clear c48); (try clear c48b0); (try clear c48b1); (try clear c50); (try clear c50b0); (try clear c50b1); (try clear c51); (try clear c51b0); (try clear c51b1); (try clear c53); (try clear c53b0); (try clear c54); (try clear c54b0); (try clear c56); (try clear c56b0); (try clear c56b1); (try clear c57); (try clear c57b0); (try clear c57b1); (try clear c60); (try clear c60b0); (try clear c60b1); (try clear c61); (try clear c61b0); (try clear c61b1); (try clear c63); (try clear c63b0); (try clear c64); (try clear c64b0); (try clear p64); (try clear p65); (try clear q65); (try clear hx65); (try clear c66); (try clear c66b0); (try clear c66b1); (try clear c68); (try clear hx104_0); (try clear hx105_0); (try clear hx106_0); (try clear hx107_0); (try clear hx108_0); (try clear hx109_0); (try clear hx111_0); (try clear hx112_0); (try clear hx114_0); (try clear hx115_0); (try clear hx117_0); (try clear hx118_0); (try clear hx120_0); (try clear hx121_0); (try clear hx123_0); (try clear hx124_0); (try clear hx126_0); (try clear p1); (try clear p10); (try clear p104); (try clear p105); (try clear p106); (try clear p107); (try clear p108); (try clear p109); (try clear p11); (try clear p111); (try clear p112); (try clear p114); (try clear p115); (try clear p117); (try clear p118); (try clear p12); (try clear p120); (try clear p121); (try clear p123); (try clear p124); (try clear p126); (try clear p2); (try clear p24); (try clear p6); (try clear p64); (try clear p65); (try clear p7); (try clear q1); (try clear q10); (try clear q104); (try clear q105); (try clear q106); (try clear q107); (try clear q108); (try clear q109); (try clear q11); (try clear q111); (try clear q112); (try clear q114); (try clear q115); (try clear q117); (try clear q118); (try clear q12); (try clear q120); (try clear q121); (try clear q123); (try clear q124); (try clear q126); (try clear q2); (try clear q24); (try clear q6); (try clear q65); (try clear q7); obtain ⟨x6_4, x8_4, rfl, rfl, HA, HK4, HB⟩ := hrel
                  cases gk with
                  | zero => exact absurd HA.out (by simp [fuseeref43_Long.l0])
                  | succ k4 =>
                   have H := HA.out; clear HA; simp only [fuseeref43_Long.l0] at H
                   by_cases c70 : x8_4 < 9
                   ·rw [if_pos c70] at H; have c70b0 : decide (x8_4 < 9) = true := decide_eq_true c70; clear c70
                    as_aux_lemma =>
                     have H' := Aside0.mk H; clear H
                     go_wp2
                     repeat (go_quiet (fail); try go_wp2)
                     go_roundg k4
                     case measure => have := HJ1.out; have := HJ12.out; have := HJ57.out; have := HK4.out; omega
                     case rel => exact ⟨(wrap64 (10 * x6_4)), (wrap64 (x8_4 + 1)), rs_, rs_, H', ⟨by have := HJ1.out; have := HJ12.out; have := HJ57.out; have := HK4.out; omega⟩, ⟨bl_⟩⟩
                   ·rw [if_neg c70] at H; have c70b0 : decide (x8_4 < 9) = false := decide_eq_false c70; clear c70
                    by_cases c71 : (wrap64 ((wrap64 (10 * t122)) + t125)) > 9223372036
                    ·rw [if_pos c71] at H; have c71b0 : decide (9223372036 < (wrap64 ((wrap64 (10 * t122)) + t125))) = true := decide_eq_true c71; clear c71
                     as_aux_lemma =>
                      simp only [Option.some.injEq, Prod.mk.injEq] at H; obtain ⟨rfl, rfl⟩ := H
                      go_wp2
                      repeat (go_quiet (fail); try go_wp2)
                      go_ret2
                      exact ⟨by first | rfl | (simp [errW_none, errW_some] <;> rfl) | (simp only [← hji9, ← hji49]; first | rfl | (simp [errW_none, errW_some] <;> rfl)) | (simp [*, errW_none, errW_some] <;> rfl), by repeat (first | (with_reducible first | exact HB.out | apply below_alloc | apply pw_below_drewN | apply below_drew1) | exact HB.out)⟩
                    ·rw [if_neg c71] at H; have c71b0 : decide (9223372036 < (wrap64 ((wrap64 (10 * t122)) + t125))) = false := decide_eq_false c71; clear c71
                     by_cases c72 : (wrap64 ((wrap64 (10 * t122)) + t125)) = 9223372036
                     ·rw [if_pos c72] at H; have c72b0 : ((wrap64 ((wrap64 (10 * t122)) + t125)) == 9223372036) = true := beq_iff_eq.mpr c72; have c72b1 : ((wrap64 ((wrap64 (10 * t122)) + t125)) != 9223372036) = false := bne_eq_false_iff_eq.mpr c72; clear c72
                      by_cases c73 : x6_4 > 854775807
                      ·rw [if_pos c73] at H; have c73b0 : decide (854775807 < x6_4) = true := decide_eq_true c73; clear c73
                       as_aux_lemma =>
                        simp only [Option.some.injEq, Prod.mk.injEq] at H; obtain ⟨rfl, rfl⟩ := H
                        go_wp2
                        repeat (go_quiet (fail); try go_wp2)
                        go_ret2
                        exact ⟨by first | rfl | (simp [errW_none, errW_some] <;> rfl) | (simp only [← hji9, ← hji49]; first | rfl | (simp [errW_none, errW_some] <;> rfl)) | (simp [*, errW_none, errW_some] <;> rfl), by repeat (first | (with_reducible first | exact HB.out | apply below_alloc | apply pw_below_drewN | apply below_drew1) | exact HB.out)⟩
                      ·rw [if_neg c73] at H; have c73b0 : decide (854775807 < x6_4) = false := decide_eq_false c73; clear c73
                       as_aux_lemma =>
                        simp only [Option.some.injEq, Prod.mk.injEq] at H; obtain ⟨rfl, rfl⟩ := H
                        go_wp2
                        repeat (go_quiet (fail); try go_wp2)
                        go_ret2
                        exact ⟨by first | rfl | (simp [errW_none, errW_some] <;> rfl) | (simp only [← hji9, ← hji49]; first | rfl | (simp [errW_none, errW_some] <;> rfl)) | (simp [*, errW_none, errW_some] <;> rfl), by repeat (first | (with_reducible first | exact HB.out | apply below_alloc | apply pw_below_drewN | apply below_drew1) | exact HB.out)⟩
                     ·rw [if_neg c72] at H; have c72b0 : ((wrap64 ((wrap64 (10 * t122)) + t125)) == 9223372036) = false := beq_eq_false_iff_ne.mpr c72; have c72b1 : ((wrap64 ((wrap64 (10 * t122)) + t125)) != 9223372036) = true := bne_iff_ne.mpr c72
                      as_aux_lemma =>
                       simp only [Option.some.injEq, Prod.mk.injEq] at H; obtain ⟨rfl, rfl⟩ := H
                       go_wp2
                       repeat (go_quiet (fail); try go_wp2)
                       go_ret2
                       exact ⟨by first | rfl | (simp [errW_none, errW_some] <;> rfl) | (simp only [← hji9, ← hji49]; first | rfl | (simp [errW_none, errW_some] <;> rfl)) | (simp [*, errW_none, errW_some] <;> rfl), by repeat (first | (with_reducible first | exact HB.out | apply below_alloc | apply pw_below_drewN | apply below_drew1) | exact HB.out)⟩
             ·rw [if_neg c57] at H; exact absurd H (by simp)
            ·rw [if_neg c56] at H; have c56b0 : ((t101.length : Int) == 2) = false := beq_eq_false_iff_ne.mpr c56; have c56b1 : ((t101.length : Int) != 2) = true := bne_iff_ne.mpr c56
             by_cases c74 : (wrap64 ((wrap64 (10 * t122)) + t125)) > 9223372036
             ·rw [if_pos c74] at H; have c74b0 : decide (9223372036 < (wrap64 ((wrap64 (10 * t122)) + t125))) = true := decide_eq_true c74; clear c74
              as_aux_lemma =>
               simp only [Option.some.injEq, Prod.mk.injEq] at H; obtain ⟨rfl, rfl⟩ := H; obtain ⟨Ao75, co75, eo75⟩ := Kd.R_slice HO_4.out; subst eo75
               have p120 : 0 ≤ (0 : Int) := (by omega)
               have q120 : 0 < (t101.length : Int) := of_decide_eq_true as_; obtain ⟨ad120, e120, hx120_0⟩ := Kd.at_string (Kd.R_reads' HO_4.out).2.2 0 p120 q120
               cases e120
               have qi120 : (0 < t101.length) = True := eq_true (by omega)
               (try rw [show ((0 : Int)).toNat = 0 from rfl] at hx120_0)
               (try rw [Addr.add_zero'] at hx120_0)
               replace p120 := eq_true p120; replace q120 := eq_true q120
               have p121 : 0 ≤ (0 : Int) := (by omega)
               have q121 : 0 < (t101.length : Int) := of_decide_eq_true as_; obtain ⟨ad121, e121, hx121_0⟩ := Kd.at_string (Kd.R_reads' HO_4.out).2.2 0 p121 q121
               obtain rfl : ad120 = ad121 := (by injection e121)
               have qi121 : (0 < t101.length) = True := eq_true (by omega)
               (try rw [show ((0 : Int)).toNat = 0 from rfl] at hx121_0)
               (try rw [Addr.add_zero'] at hx121_0)
               replace p121 := eq_true p121; replace q121 := eq_true q121
               go_wp2_with (first | (go_at_call 98; (with_reducible refine (fuseeref07_Digits.calls kj12 ((rdOf ByteArray.empty t101 0).extract 0 ((ji49) : Int).toNat) t122 _ A52.out).mono ?_); rintro e w' ⟨rfl, ⟨nd, rfl⟩⟩; (try exact dn_); have p123 : 0 ≤ (0 : Int) := (by omega); have q123 : 0 < (t101.length : Int) := of_decide_eq_true as_; obtain ⟨ad123, e123, hx123_0⟩ := Kd.at_string (Kd.R_reads' HO_4.out).2.2 0 p123 q123; obtain rfl : ad120 = ad123 := (by injection e123); have qi123 : (0 < t101.length) = True := eq_true (by omega); (try rw [show ((0 : Int)).toNat = 0 from rfl] at hx123_0); (try rw [Addr.add_zero'] at hx123_0); replace p123 := eq_true p123; replace q123 := eq_true q123; have p124 : 0 ≤ (0 : Int) := (by omega); have q124 : 0 < (t101.length : Int) := of_decide_eq_true as_; obtain ⟨ad124, e124, hx124_0⟩ := Kd.at_string (Kd.R_reads' HO_4.out).2.2 0 p124 q124; obtain rfl : ad120 = ad124 := (by injection e124); have qi124 : (0 < t101.length) = True := eq_true (by omega); (try rw [show ((0 : Int)).toNat = 0 from rfl] at hx124_0); (try rw [Addr.add_zero'] at hx124_0); replace p124 := eq_true p124; replace q124 := eq_true q124) | (go_at_call 98; (with_reducible refine (fuseeref07_Digits.calls kj12 ((rdOf ByteArray.empty t101 0).extract ((ji49) : Int).toNat (rdOf ByteArray.empty t101 0).size) t125 _ A55.out).mono ?_); rintro e w' ⟨rfl, ⟨nd, rfl⟩⟩; (try exact dn_)))
               repeat (go_quiet (first | (go_at_call 98; (with_reducible refine (fuseeref07_Digits.calls kj12 ((rdOf ByteArray.empty t101 0).extract 0 ((ji49) : Int).toNat) t122 _ A52.out).mono ?_); rintro e w' ⟨rfl, ⟨nd, rfl⟩⟩; (try exact dn_); have p123 : 0 ≤ (0 : Int) := (by omega); have q123 : 0 < (t101.length : Int) := of_decide_eq_true as_; obtain ⟨ad123, e123, hx123_0⟩ := Kd.at_string (Kd.R_reads' HO_4.out).2.2 0 p123 q123; obtain rfl : ad120 = ad123 := (by injection e123); have qi123 : (0 < t101.length) = True := eq_true (by omega); (try rw [show ((0 : Int)).toNat = 0 from rfl] at hx123_0); (try rw [Addr.add_zero'] at hx123_0); replace p123 := eq_true p123; replace q123 := eq_true q123; have p124 : 0 ≤ (0 : Int) := (by omega); have q124 : 0 < (t101.length : Int) := of_decide_eq_true as_; obtain ⟨ad124, e124, hx124_0⟩ := Kd.at_string (Kd.R_reads' HO_4.out).2.2 0 p124 q124; obtain rfl : ad120 = ad124 := (by injection e124); have qi124 : (0 < t101.length) = True := eq_true (by omega); (try rw [show ((0 : Int)).toNat = 0 from rfl] at hx124_0); (try rw [Addr.add_zero'] at hx124_0); replace p124 := eq_true p124; replace q124 := eq_true q124) | (go_at_call 98; (with_reducible refine (fuseeref07_Digits.calls kj12 ((rdOf ByteArray.empty t101 0).extract ((ji49) : Int).toNat (rdOf ByteArray.empty t101 0).size) t125 _ A55.out).mono ?_); rintro e w' ⟨rfl, ⟨nd, rfl⟩⟩; (try exact dn_))); try go_wp2_with (first | (go_at_call 98; (with_reducible refine (fuseeref07_Digits.calls kj12 ((rdOf ByteArray.empty t101 0).extract 0 ((ji49) : Int).toNat) t122 _ A52.out).mono ?_); rintro e w' ⟨rfl, ⟨nd, rfl⟩⟩; (try exact dn_); have p123 : 0 ≤ (0 : Int) := (by omega); have q123 : 0 < (t101.length : Int) := of_decide_eq_true as_; obtain ⟨ad123, e123, hx123_0⟩ := Kd.at_string (Kd.R_reads' HO_4.out).2.2 0 p123 q123; obtain rfl : ad120 = ad123 := (by injection e123); have qi123 : (0 < t101.length) = True := eq_true (by omega); (try rw [show ((0 : Int)).toNat = 0 from rfl] at hx123_0); (try rw [Addr.add_zero'] at hx123_0); replace p123 := eq_true p123; replace q123 := eq_true q123; have p124 : 0 ≤ (0 : Int) := (by omega); have q124 : 0 < (t101.length : Int) := of_decide_eq_true as_; obtain ⟨ad124, e124, hx124_0⟩ := Kd.at_string (Kd.R_reads' HO_4.out).2.2 0 p124 q124; obtain rfl : ad120 = ad124 := (by injection e124); have qi124 : (0 < t101.length) = True := eq_true (by omega); (try rw [show ((0 : Int)).toNat = 0 from rfl] at hx124_0); (try rw [Addr.add_zero'] at hx124_0); replace p124 := eq_true p124; replace q124 := eq_true q124) | (go_at_call 98; (with_reducible refine (fuseeref07_Digits.calls kj12 ((rdOf ByteArray.empty t101 0).extract ((ji49) : Int).toNat (rdOf ByteArray.empty t101 0).size) t125 _ A55.out).mono ?_); rintro e w' ⟨rfl, ⟨nd, rfl⟩⟩; (try exact dn_))))
               go_ret2
               exact ⟨by first | rfl | (simp [errW_none, errW_some] <;> rfl) | (simp only [← hji9, ← hji49]; first | rfl | (simp [errW_none, errW_some] <;> rfl)) | (simp [*, errW_none, errW_some] <;> rfl), by repeat (first | (with_reducible first | exact HB.out | apply below_alloc | apply pw_below_drewN | apply below_drew1) | exact HB.out)⟩
             ·rw [if_neg c74] at H; have c74b0 : decide (9223372036 < (wrap64 ((wrap64 (10 * t122)) + t125))) = false := decide_eq_false c74; clear c74
              by_cases c76 : (wrap64 ((wrap64 (10 * t122)) + t125)) = 9223372036
              ·rw [if_pos c76] at H; have c76b0 : ((wrap64 ((wrap64 (10 * t122)) + t125)) == 9223372036) = true := beq_iff_eq.mpr c76; have c76b1 : ((wrap64 ((wrap64 (10 * t122)) + t125)) != 9223372036) = false := bne_eq_false_iff_eq.mpr c76; clear c76
               as_aux_lemma =>
                simp only [Option.some.injEq, Prod.mk.injEq] at H; obtain ⟨rfl, rfl⟩ := H; obtain ⟨Ao77, co77, eo77⟩ := Kd.R_slice HO_4.out; subst eo77
                have p120 : 0 ≤ (0 : Int) := (by omega)
                have q120 : 0 < (t101.length : Int) := of_decide_eq_true as_; obtain ⟨ad120, e120, hx120_0⟩ := Kd.at_string (Kd.R_reads' HO_4.out).2.2 0 p120 q120
                cases e120
                have qi120 : (0 < t101.length) = True := eq_true (by omega)
                (try rw [show ((0 : Int)).toNat = 0 from rfl] at hx120_0)
                (try rw [Addr.add_zero'] at hx120_0)
                replace p120 := eq_true p120; replace q120 := eq_true q120
                have p121 : 0 ≤ (0 : Int) := (by omega)
                have q121 : 0 < (t101.length : Int) := of_decide_eq_true as_; obtain ⟨ad121, e121, hx121_0⟩ := Kd.at_string (Kd.R_reads' HO_4.out).2.2 0 p121 q121
                obtain rfl : ad120 = ad121 := (by injection e121)
                have qi121 : (0 < t101.length) = True := eq_true (by omega)
                (try rw [show ((0 : Int)).toNat = 0 from rfl] at hx121_0)
                (try rw [Addr.add_zero'] at hx121_0)
                replace p121 := eq_true p121; replace q121 := eq_true q121
                go_wp2_with (first | (go_at_call 98; (with_reducible refine (fuseeref07_Digits.calls kj12 ((rdOf ByteArray.empty t101 0).extract 0 ((ji49) : Int).toNat) t122 _ A52.out).mono ?_); rintro e w' ⟨rfl, ⟨nd, rfl⟩⟩; (try exact dn_); have p123 : 0 ≤ (0 : Int) := (by omega); have q123 : 0 < (t101.length : Int) := of_decide_eq_true as_; obtain ⟨ad123, e123, hx123_0⟩ := Kd.at_string (Kd.R_reads' HO_4.out).2.2 0 p123 q123; obtain rfl : ad120 = ad123 := (by injection e123); have qi123 : (0 < t101.length) = True := eq_true (by omega); (try rw [show ((0 : Int)).toNat = 0 from rfl] at hx123_0); (try rw [Addr.add_zero'] at hx123_0); replace p123 := eq_true p123; replace q123 := eq_true q123; have p124 : 0 ≤ (0 : Int) := (by omega); have q124 : 0 < (t101.length : Int) := of_decide_eq_true as_; obtain ⟨ad124, e124, hx124_0⟩ := Kd.at_string (Kd.R_reads' HO_4.out).2.2 0 p124 q124; obtain rfl : ad120 = ad124 := (by injection e124); have qi124 : (0 < t101.length) = True := eq_true (by omega); (try rw [show ((0 : Int)).toNat = 0 from rfl] at hx124_0); (try rw [Addr.add_zero'] at hx124_0); replace p124 := eq_true p124; replace q124 := eq_true q124) | (go_at_call 98; (with_reducible refine (fuseeref07_Digits.calls kj12 ((rdOf ByteArray.empty t101 0).extract ((ji49) : Int).toNat (rdOf ByteArray.empty t101 0).size) t125 _ A55.out).mono ?_); rintro e w' ⟨rfl, ⟨nd, rfl⟩⟩; (try exact dn_)))
                repeat (go_quiet (first | (go_at_call 98; (with_reducible refine (fuseeref07_Digits.calls kj12 ((rdOf ByteArray.empty t101 0).extract 0 ((ji49) : Int).toNat) t122 _ A52.out).mono ?_); rintro e w' ⟨rfl, ⟨nd, rfl⟩⟩; (try exact dn_); have p123 : 0 ≤ (0 : Int) := (by omega); have q123 : 0 < (t101.length : Int) := of_decide_eq_true as_; obtain ⟨ad123, e123, hx123_0⟩ := Kd.at_string (Kd.R_reads' HO_4.out).2.2 0 p123 q123; obtain rfl : ad120 = ad123 := (by injection e123); have qi123 : (0 < t101.length) = True := eq_true (by omega); (try rw [show ((0 : Int)).toNat = 0 from rfl] at hx123_0); (try rw [Addr.add_zero'] at hx123_0); replace p123 := eq_true p123; replace q123 := eq_true q123; have p124 : 0 ≤ (0 : Int) := (by omega); have q124 : 0 < (t101.length : Int) := of_decide_eq_true as_; obtain ⟨ad124, e124, hx124_0⟩ := Kd.at_string (Kd.R_reads' HO_4.out).2.2 0 p124 q124; obtain rfl : ad120 = ad124 := (by injection e124); have qi124 : (0 < t101.length) = True := eq_true (by omega); (try rw [show ((0 : Int)).toNat = 0 from rfl] at hx124_0); (try rw [Addr.add_zero'] at hx124_0); replace p124 := eq_true p124; replace q124 := eq_true q124) | (go_at_call 98; (with_reducible refine (fuseeref07_Digits.calls kj12 ((rdOf ByteArray.empty t101 0).extract ((ji49) : Int).toNat (rdOf ByteArray.empty t101 0).size) t125 _ A55.out).mono ?_); rintro e w' ⟨rfl, ⟨nd, rfl⟩⟩; (try exact dn_))); try go_wp2_with (first | (go_at_call 98; (with_reducible refine (fuseeref07_Digits.calls kj12 ((rdOf ByteArray.empty t101 0).extract 0 ((ji49) : Int).toNat) t122 _ A52.out).mono ?_); rintro e w' ⟨rfl, ⟨nd, rfl⟩⟩; (try exact dn_); have p123 : 0 ≤ (0 : Int) := (by omega); have q123 : 0 < (t101.length : Int) := of_decide_eq_true as_; obtain ⟨ad123, e123, hx123_0⟩ := Kd.at_string (Kd.R_reads' HO_4.out).2.2 0 p123 q123; obtain rfl : ad120 = ad123 := (by injection e123); have qi123 : (0 < t101.length) = True := eq_true (by omega); (try rw [show ((0 : Int)).toNat = 0 from rfl] at hx123_0); (try rw [Addr.add_zero'] at hx123_0); replace p123 := eq_true p123; replace q123 := eq_true q123; have p124 : 0 ≤ (0 : Int) := (by omega); have q124 : 0 < (t101.length : Int) := of_decide_eq_true as_; obtain ⟨ad124, e124, hx124_0⟩ := Kd.at_string (Kd.R_reads' HO_4.out).2.2 0 p124 q124; obtain rfl : ad120 = ad124 := (by injection e124); have qi124 : (0 < t101.length) = True := eq_true (by omega); (try rw [show ((0 : Int)).toNat = 0 from rfl] at hx124_0); (try rw [Addr.add_zero'] at hx124_0); replace p124 := eq_true p124; replace q124 := eq_true q124) | (go_at_call 98; (with_reducible refine (fuseeref07_Digits.calls kj12 ((rdOf ByteArray.empty t101 0).extract ((ji49) : Int).toNat (rdOf ByteArray.empty t101 0).size) t125 _ A55.out).mono ?_); rintro e w' ⟨rfl, ⟨nd, rfl⟩⟩; (try exact dn_))))
                go_ret2
                exact ⟨by first | rfl | (simp [errW_none, errW_some] <;> rfl) | (simp only [← hji9, ← hji49]; first | rfl | (simp [errW_none, errW_some] <;> rfl)) | (simp [*, errW_none, errW_some] <;> rfl), by repeat (first | (with_reducible first | exact HB.out | apply below_alloc | apply pw_below_drewN | apply below_drew1) | exact HB.out)⟩
              ·rw [if_neg c76] at H; have c76b0 : ((wrap64 ((wrap64 (10 * t122)) + t125)) == 9223372036) = false := beq_eq_false_iff_ne.mpr c76; have c76b1 : ((wrap64 ((wrap64 (10 * t122)) + t125)) != 9223372036) = true := bne_iff_ne.mpr c76
               as_aux_lemma =>
                simp only [Option.some.injEq, Prod.mk.injEq] at H; obtain ⟨rfl, rfl⟩ := H; obtain ⟨Ao78, co78, eo78⟩ := Kd.R_slice HO_4.out; subst eo78
                have p120 : 0 ≤ (0 : Int) := (by omega)
                have q120 : 0 < (t101.length : Int) := of_decide_eq_true as_; obtain ⟨ad120, e120, hx120_0⟩ := Kd.at_string (Kd.R_reads' HO_4.out).2.2 0 p120 q120
                cases e120
                have qi120 : (0 < t101.length) = True := eq_true (by omega)
                (try rw [show ((0 : Int)).toNat = 0 from rfl] at hx120_0)
                (try rw [Addr.add_zero'] at hx120_0)
                replace p120 := eq_true p120; replace q120 := eq_true q120
                have p121 : 0 ≤ (0 : Int) := (by omega)
                have q121 : 0 < (t101.length : Int) := of_decide_eq_true as_; obtain ⟨ad121, e121, hx121_0⟩ := Kd.at_string (Kd.R_reads' HO_4.out).2.2 0 p121 q121
                obtain rfl : ad120 = ad121 := (by injection e121)
                have qi121 : (0 < t101.length) = True := eq_true (by omega)
                (try rw [show ((0 : Int)).toNat = 0 from rfl] at hx121_0)
                (try rw [Addr.add_zero'] at hx121_0)
                replace p121 := eq_true p121; replace q121 := eq_true q121
                go_wp2_with (first | (go_at_call 98; (with_reducible refine (fuseeref07_Digits.calls kj12 ((rdOf ByteArray.empty t101 0).extract 0 ((ji49) : Int).toNat) t122 _ A52.out).mono ?_); rintro e w' ⟨rfl, ⟨nd, rfl⟩⟩; (try exact dn_); have p123 : 0 ≤ (0 : Int) := (by omega); have q123 : 0 < (t101.length : Int) := of_decide_eq_true as_; obtain ⟨ad123, e123, hx123_0⟩ := Kd.at_string (Kd.R_reads' HO_4.out).2.2 0 p123 q123; obtain rfl : ad120 = ad123 := (by injection e123); have qi123 : (0 < t101.length) = True := eq_true (by omega); (try rw [show ((0 : Int)).toNat = 0 from rfl] at hx123_0); (try rw [Addr.add_zero'] at hx123_0); replace p123 := eq_true p123; replace q123 := eq_true q123; have p124 : 0 ≤ (0 : Int) := (by omega); have q124 : 0 < (t101.length : Int) := of_decide_eq_true as_; obtain ⟨ad124, e124, hx124_0⟩ := Kd.at_string (Kd.R_reads' HO_4.out).2.2 0 p124 q124; obtain rfl : ad120 = ad124 := (by injection e124); have qi124 : (0 < t101.length) = True := eq_true (by omega); (try rw [show ((0 : Int)).toNat = 0 from rfl] at hx124_0); (try rw [Addr.add_zero'] at hx124_0); replace p124 := eq_true p124; replace q124 := eq_true q124) | (go_at_call 98; (with_reducible refine (fuseeref07_Digits.calls kj12 ((rdOf ByteArray.empty t101 0).extract ((ji49) : Int).toNat (rdOf ByteArray.empty t101 0).size) t125 _ A55.out).mono ?_); rintro e w' ⟨rfl, ⟨nd, rfl⟩⟩; (try exact dn_)))
                repeat (go_quiet (first | (go_at_call 98; (with_reducible refine (fuseeref07_Digits.calls kj12 ((rdOf ByteArray.empty t101 0).extract 0 ((ji49) : Int).toNat) t122 _ A52.out).mono ?_); rintro e w' ⟨rfl, ⟨nd, rfl⟩⟩; (try exact dn_); have p123 : 0 ≤ (0 : Int) := (by omega); have q123 : 0 < (t101.length : Int) := of_decide_eq_true as_; obtain ⟨ad123, e123, hx123_0⟩ := Kd.at_string (Kd.R_reads' HO_4.out).2.2 0 p123 q123; obtain rfl : ad120 = ad123 := (by injection e123); have qi123 : (0 < t101.length) = True := eq_true (by omega); (try rw [show ((0 : Int)).toNat = 0 from rfl] at hx123_0); (try rw [Addr.add_zero'] at hx123_0); replace p123 := eq_true p123; replace q123 := eq_true q123; have p124 : 0 ≤ (0 : Int) := (by omega); have q124 : 0 < (t101.length : Int) := of_decide_eq_true as_; obtain ⟨ad124, e124, hx124_0⟩ := Kd.at_string (Kd.R_reads' HO_4.out).2.2 0 p124 q124; obtain rfl : ad120 = ad124 := (by injection e124); have qi124 : (0 < t101.length) = True := eq_true (by omega); (try rw [show ((0 : Int)).toNat = 0 from rfl] at hx124_0); (try rw [Addr.add_zero'] at hx124_0); replace p124 := eq_true p124; replace q124 := eq_true q124) | (go_at_call 98; (with_reducible refine (fuseeref07_Digits.calls kj12 ((rdOf ByteArray.empty t101 0).extract ((ji49) : Int).toNat (rdOf ByteArray.empty t101 0).size) t125 _ A55.out).mono ?_); rintro e w' ⟨rfl, ⟨nd, rfl⟩⟩; (try exact dn_))); try go_wp2_with (first | (go_at_call 98; (with_reducible refine (fuseeref07_Digits.calls kj12 ((rdOf ByteArray.empty t101 0).extract 0 ((ji49) : Int).toNat) t122 _ A52.out).mono ?_); rintro e w' ⟨rfl, ⟨nd, rfl⟩⟩; (try exact dn_); have p123 : 0 ≤ (0 : Int) := (by omega); have q123 : 0 < (t101.length : Int) := of_decide_eq_true as_; obtain ⟨ad123, e123, hx123_0⟩ := Kd.at_string (Kd.R_reads' HO_4.out).2.2 0 p123 q123; obtain rfl : ad120 = ad123 := (by injection e123); have qi123 : (0 < t101.length) = True := eq_true (by omega); (try rw [show ((0 : Int)).toNat = 0 from rfl] at hx123_0); (try rw [Addr.add_zero'] at hx123_0); replace p123 := eq_true p123; replace q123 := eq_true q123; have p124 : 0 ≤ (0 : Int) := (by omega); have q124 : 0 < (t101.length : Int) := of_decide_eq_true as_; obtain ⟨ad124, e124, hx124_0⟩ := Kd.at_string (Kd.R_reads' HO_4.out).2.2 0 p124 q124; obtain rfl : ad120 = ad124 := (by injection e124); have qi124 : (0 < t101.length) = True := eq_true (by omega); (try rw [show ((0 : Int)).toNat = 0 from rfl] at hx124_0); (try rw [Addr.add_zero'] at hx124_0); replace p124 := eq_true p124; replace q124 := eq_true q124) | (go_at_call 98; (with_reducible refine (fuseeref07_Digits.calls kj12 ((rdOf ByteArray.empty t101 0).extract ((ji49) : Int).toNat (rdOf ByteArray.empty t101 0).size) t125 _ A55.out).mono ?_); rintro e w' ⟨rfl, ⟨nd, rfl⟩⟩; (try exact dn_))))
                go_ret2
                exact ⟨by first | rfl | (simp [errW_none, errW_some] <;> rfl) | (simp only [← hji9, ← hji49]; first | rfl | (simp [errW_none, errW_some] <;> rfl)) | (simp [*, errW_none, errW_some] <;> rfl), by repeat (first | (with_reducible first | exact HB.out | apply below_alloc | apply pw_below_drewN | apply below_drew1) | exact HB.out)⟩
           ·rw [if_neg c51] at H; exact absurd H (by simp)
          ·rw [if_neg c50] at H; exact absurd H (by simp)
         ·rw [if_neg c48] at H; exact absurd H (by simp)
     ·rw [if_neg c11] at H; exact absurd H (by simp)
    ·rw [if_neg c10] at H; exact absurd H (by simp)
end Go.Proofs.YtfjifhkgifefeaaGreatDoor.PU
end

section
/- The document's Long, told so. -/
namespace Go.Proofs.YtfjifhkgifefeaaGreatDoor.CivP
open Go.RowKit Go.Proofs.YtfjifhkgifefeaaGreatDoor.PA Go.Proofs.YtfjifhkgifefeaaGreatDoor.PT Go.Proofs.YtfjifhkgifefeaaGreatDoor.PU Go.Proofs.YtfjifhkgifefeaaGreatDoor.CivM Go.Proofs.YtfjifhkgifefeaaGreatDoor.StrM Go.Proofs.YtfjifhkgifefeaaGreatDoor.Giv Go.Proofs.YtfjifhkgifefeaaGreatDoorW.PrintWords
def pcs : List UInt8 → List UInt8 → List ByteArray
  | P, [] => [⟨P.toArray⟩]
  | P, c :: Q => if c = 46 then ⟨P.toArray⟩ :: pcs [] Q else pcs (P ++ [c]) Q
theorem pcs_none : ∀ Q P : List UInt8, 46 ∉ Q → pcs P Q = [⟨(P ++ Q).toArray⟩]
  | [], P, _ => by simp [pcs]
  | c :: Q, P, h => by
    simp only [List.mem_cons, not_or] at h; rw [pcs, if_neg (fun e => h.1 e.symm), pcs_none Q _ h.2]; simp
theorem pcs_hit : ∀ a P r : List UInt8, 46 ∉ a → pcs P (a ++ 46 :: r) = ⟨(P ++ a).toArray⟩ :: pcs [] r
  | [], P, r, _ => by rw [List.nil_append, pcs, if_pos rfl]; simp
  | c :: a, P, r, h => by
    simp only [List.mem_cons, not_or] at h; rw [List.cons_append, pcs, if_neg (fun e => h.1 e.symm), pcs_hit a _ r h.2]; simp
theorem first46 : ∀ l : List UInt8, 46 ∉ l ∨ ∃ a r, l = a ++ 46 :: r ∧ 46 ∉ a
  | [] => .inl (by simp)
  | c :: l => by
    by_cases e : c = 46
    · exact .inr ⟨[], l, by rw [e]; rfl, by simp⟩
    · rcases first46 l with h | ⟨a, r, rfl, h⟩
      · exact .inl (by simp only [List.mem_cons, not_or]; exact ⟨fun x => e x.symm, h⟩)
      · exact .inr ⟨c :: a, r, rfl, by simp only [List.mem_cons, not_or]; exact ⟨fun x => e x.symm, h⟩⟩
theorem pcs_two (Q P : List UInt8) (h : ¬ 46 ∉ Q) : 2 ≤ (pcs P Q).length := by
  rcases first46 Q with g | ⟨a, r, rfl, g⟩
  · exact absurd g h
  · rw [pcs_hit a P r g]
    rcases first46 r with g2 | ⟨a2, r2, rfl, g2⟩
    · rw [pcs_none r _ g2]; simp
    · rw [pcs_hit a2 _ r2 g2]; simp
theorem n46 (c : UInt8) : ((c.toNat : Nat) : Int) = 46 ↔ c = 46 := by
  constructor
  · intro e; apply UInt8.toNat_inj.1; have : (46 : UInt8).toNat = 46 := rfl; omega
  · intro e; rw [e]; rfl
theorem n48 (c : UInt8) : ((c.toNat : Nat) : Int) = 48 ↔ c = 48 := by
  constructor
  · intro e; apply UInt8.toNat_inj.1; have : (48 : UInt8).toNat = 48 := rfl; omega
  · intro e; rw [e]; rfl
theorem n115 (c : UInt8) : ((c.toNat : Nat) : Int) = 115 ↔ c = 115 := by
  constructor
  · intro e; apply UInt8.toNat_inj.1; have : (115 : UInt8).toNat = 115 := rfl; omega
  · intro e; rw [e]; rfl
theorem rcut_end (k : Nat) (hk : 1 ≤ k) (s : ByteArray) (x : List ByteArray) (i j : Int) (h : ¬ j ≤ (s.size : Int)) : fuseeref07_Cut.l0 k s 46 x i j = some x := by
  obtain ⟨k, rfl⟩ : ∃ j, k = j + 1 := ⟨k - 1, by omega⟩
  simp only [fuseeref07_Cut.l0]; rw [if_neg h]
theorem rcut_go (l : List UInt8) (hl : l.length ≤ 200) : ∀ (Q A P : List UInt8) (x : List ByteArray) (k : Nat) (i j : Int), l = A ++ (P ++ Q) → i = A.length → j = A.length + P.length → x.length + Q.length ≤ 1000 → Q.length + 2 ≤ k →
    fuseeref07_Cut.l0 k ⟨l.toArray⟩ 46 x i j = some (x ++ pcs P Q) := by
  intro Q
  induction Q with
  | nil =>
    intro A P x k i j h hi hj hx hk
    obtain ⟨k, rfl⟩ : ∃ j, k = j + 1 := ⟨k - 1, by omega⟩
    have sz : (((⟨l.toArray⟩ : ByteArray).size : Nat) : Int) = j := by rw [ba_size, h, hj]; simp
    have hl' : A.length + P.length ≤ 200 := by rw [h] at hl; simpa using hl
    conv => lhs; simp only [fuseeref07_Cut.l0]
    simp only [List.length_nil] at hx hk; rw [sz, if_pos (by omega), if_pos rfl, if_pos (by omega), if_pos (by omega), if_pos (by omega)]; rw [ext_eq l A P [] h i.toNat j.toNat (by omega) (by omega), wid (by omega) (by omega), rcut_end k (by omega) _ _ _ _ (by rw [sz]; omega)]
    rfl
  | cons c Q ih =>
    intro A P x k i j h hi hj hx hk
    obtain ⟨k, rfl⟩ : ∃ j, k = j + 1 := ⟨k - 1, by omega⟩
    have sz : (((⟨l.toArray⟩ : ByteArray).size : Nat) : Int) = j + Q.length + 1 := by rw [ba_size, h, hj]; simp; omega
    have hl' : A.length + P.length + Q.length + 1 ≤ 200 := by rw [h] at hl; simp at hl; omega
    have hb : bt (⟨l.toArray⟩ : ByteArray) j = c.toNat := bt_eq l (A ++ P) Q c (by rw [h]; simp) j (by rw [hj]; simp)
    conv => lhs; simp only [fuseeref07_Cut.l0]
    simp only [List.length_cons] at hx hk; rw [sz, if_pos (by omega), if_neg (by omega), if_pos (by omega), if_pos (by omega), hb, wid (by omega) (by omega)]; rw [pcs]
    by_cases e : c = 46
    · rw [if_pos ((n46 c).2 e), if_pos (by omega), if_pos (by omega), if_pos (by omega), if_pos e]; rw [ext_eq l A P (c :: Q) h i.toNat j.toNat (by omega) (by omega)]; rw [ih (A ++ (P ++ [c])) [] _ k (j + 1) (j + 1) (by rw [h]; simp) (by rw [hj]; simp; omega) (by rw [hj]; simp; omega) (by simp; omega) (by omega)]
      simp
    · rw [if_neg (fun x => e ((n46 c).1 x)), if_neg e]
      exact ih A (P ++ [c]) x k i (j + 1) (by rw [h]; simp) hi (by rw [hj]; simp; omega) (by omega) (by omega)
theorem rcut (k : Nat) (l : List UInt8) (hl : l.length ≤ 200) (hk : l.length + 2 ≤ k) : fuseeref07_Cut.f k ⟨l.toArray⟩ 46 = some (pcs [] l) := by
  unfold fuseeref07_Cut.f
  exact rcut_go l hl l [] [] [] k 0 0 (by simp) (by simp) (by simp) (by simp; omega) hk
theorem rd_neg (l : List UInt8) : rd l < 0 ↔ ¬ l.all dgt = true := by
  unfold rd
  by_cases h : l.all dgt = true
  · rw [if_pos h]; have := (decv_bd l h).1
    constructor
    · intro x; omega
    · intro x; exact absurd h x
  · rw [if_neg h]
    exact ⟨fun _ => h, fun _ => by omega⟩
theorem rd_all (l : List UInt8) (h : l.all dgt = true) : rd l = decv l := by unfold rd; rw [if_pos h]
theorem snoc_ex (l : List UInt8) (h : l ≠ []) : ∃ i c, l = i ++ [c] := ⟨l.dropLast, l.getLast h, (List.dropLast_concat_getLast h).symm⟩
def goodA (a : List UInt8) : Prop := 1 ≤ a.length ∧ a.length ≤ 10 ∧ (∀ x t, a = x :: t → t ≠ [] → x ≠ 48) ∧ a.all dgt = true
def goodR (r : List UInt8) : Prop := 1 ≤ r.length ∧ r.length ≤ 9 ∧ (∀ i, r ≠ i ++ [48]) ∧ r.all dgt = true
noncomputable instance (a : List UInt8) : Decidable (goodA a) := Classical.propDecidable _
noncomputable instance (a : List UInt8) : Decidable (goodR a) := Classical.propDecidable _
theorem rl_j1t (k : Nat) (hk : 1 ≤ k) (t : List ByteArray) : fuseeref43_Long.j1 k t true = some (0, 3) := by
  obtain ⟨k, rfl⟩ : ∃ j, k = j + 1 := ⟨k - 1, by omega⟩
  simp only [fuseeref43_Long.j1]; rw [if_pos trivial]
theorem rl_j0t (k : Nat) (hk : 1 ≤ k) (t : ByteArray) : fuseeref43_Long.j0 k t true = some (0, 3) := by
  obtain ⟨k, rfl⟩ : ∃ j, k = j + 1 := ⟨k - 1, by omega⟩
  simp only [fuseeref43_Long.j0]; rw [if_pos trivial]
theorem rl_j2t (k : Nat) (hk : 1 ≤ k) (n : Int) (t : ByteArray) : fuseeref43_Long.j2 k n t true = some (0, 3) := by
  obtain ⟨k, rfl⟩ : ∃ j, k = j + 1 := ⟨k - 1, by omega⟩
  simp only [fuseeref43_Long.j2]; rw [if_pos trivial]
theorem rl_tail (k : Nat) (hk : 40 ≤ k) (T : List ByteArray) (i : List UInt8) (c : UInt8) (hi : i.length ≤ 9) :
    ((fuseeref07_Digits.f k ⟨i.toArray⟩).bind fun t110 => (if t110 < 0 then (fuseeref43_Long.j1 k T true) else ((fuseeref07_Digits.f k ⟨([c] : List UInt8).toArray⟩).bind fun t113 => (fuseeref43_Long.j1 k T (decide (t113 < 0)))))) = if (i ++ [c]).all dgt = true then fuseeref43_Long.j1 k T false else some (0, 3) := by
  rw [rdigs' k i (by omega) hi, rdigs' k [c] (by omega) (by simp)]; simp only [Option.bind_some]
  by_cases h1 : i.all dgt = true
  · rw [if_neg (fun x => (rd_neg i).1 x h1)]
    by_cases h2 : ([c] : List UInt8).all dgt = true
    · rw [decide_eq_false (fun x => (rd_neg [c]).1 x h2), if_pos (by rw [List.all_append, h1, h2]; rfl)]
    · rw [decide_eq_true ((rd_neg [c]).2 h2), if_neg (by rw [List.all_append, h1]; simpa using h2), rl_j1t k (by omega)]
  · rw [if_pos ((rd_neg i).2 h1), if_neg (by rw [List.all_append]; simp only [Bool.and_eq_true]; exact fun x => h1 x.1), rl_j1t k (by omega)]
theorem rl_j0 (k : Nat) (hk : 120 ≤ k) (body a : List UInt8) (t : List ByteArray) (hb : body.length ≤ 100) (ht : pcs [] body = ⟨a.toArray⟩ :: t) :
    (t.length ≤ 1 → goodA a → fuseeref43_Long.j0 (k + 1) ⟨(body ++ [115]).toArray⟩ false = fuseeref43_Long.j1 k (⟨a.toArray⟩ :: t) false) ∧
    (¬ (t.length ≤ 1 ∧ goodA a) → fuseeref43_Long.j0 (k + 1) ⟨(body ++ [115]).toArray⟩ false = some (0, 3)) := by
  have sz : (((⟨(body ++ [115]).toArray⟩ : ByteArray).size : Nat) : Int) = body.length + 1 := by rw [ba_size]; simp
  have r0 : rdOf ByteArray.empty ((⟨a.toArray⟩ : ByteArray) :: t) 0 = ⟨a.toArray⟩ := rfl
  have H : fuseeref43_Long.j0 (k + 1) ⟨(body ++ [115]).toArray⟩ false = if t.length ≤ 1 ∧ goodA a then fuseeref43_Long.j1 k (⟨a.toArray⟩ :: t) false else some (0, 3) := by
    conv => lhs; simp only [fuseeref43_Long.j0]
    rw [if_neg (by simp), sz, wid (by omega) (by omega), if_pos (by omega), if_pos (by omega)]; rw [ext_eq (body ++ [115]) [] body [115] (by simp) 0 ((body.length : Int) + 1 - 1).toNat rfl (by simp), rcut k body (by omega) (by omega), ht]; simp only [Option.bind_some]; rw [r0]
    have asz : (((⟨a.toArray⟩ : ByteArray).size : Nat) : Int) = a.length := by rw [ba_size]
    by_cases c1 : (((((⟨a.toArray⟩ : ByteArray) :: t).length : Nat)) : Int) > 2
    · rw [if_pos c1, rl_j1t k (by omega), if_neg]
      rintro ⟨x, -⟩
      simp at c1; omega
    rw [if_neg c1, if_pos (by simp), asz]
    have c1' : t.length ≤ 1 := by simp at c1; omega
    by_cases c2 : (a.length : Int) < 1
    · rw [if_pos c2, rl_j1t k (by omega), if_neg]
      rintro ⟨-, x, -⟩; omega
    rw [if_neg c2]
    by_cases c3 : (a.length : Int) > 10
    · rw [if_pos c3, rl_j1t k (by omega), if_neg]
      rintro ⟨-, -, x, -⟩; omega
    rw [if_neg c3, wid (x := (a.length : Int) - 1) (by omega) (by omega)]; obtain ⟨i, c, ha⟩ := snoc_ex a (fun e => by rw [e] at c2; simp at c2)
    have hal : a.length = i.length + 1 := by rw [ha]; simp
    rw [ext_eq a [] i [c] (by rw [ha]; rfl) 0 ((a.length : Int) - 1).toNat rfl (by simp; omega)]; rw [ext_eq a i [c] [] (by rw [ha]; simp) ((a.length : Int) - 1).toNat _ (by omega) (by rw [ba_size, hal]; simp)]; rw [rl_tail k (by omega) _ i c (by omega), ← ha]
    have FIN : (∀ x t, a = x :: t → t ≠ [] → x ≠ 48) → (if a.all dgt = true then fuseeref43_Long.j1 k (⟨a.toArray⟩ :: t) false else some (0, 3)) = if t.length ≤ 1 ∧ goodA a then fuseeref43_Long.j1 k (⟨a.toArray⟩ :: t) false else some (0, 3) := by
      intro hh
      by_cases d : a.all dgt = true
      · rw [if_pos d, if_pos ⟨c1', by omega, by omega, hh, d⟩]
      · rw [if_neg d, if_neg (fun x => d x.2.2.2.2)]
    by_cases c4 : (a.length : Int) > 1
    · rw [if_pos c4, if_pos (by omega)]
      obtain ⟨x, u, hu⟩ : ∃ x u, a = x :: u := by
        cases a with
        | nil => simp at c4
        | cons x u => exact ⟨x, u, rfl⟩
      have hb0 : bt (⟨a.toArray⟩ : ByteArray) 0 = x.toNat := bt_eq a [] u x hu 0 rfl; rw [hb0]
      by_cases e : x = 48
      · rw [if_pos ((n48 x).2 e), rl_j1t k (by omega), if_neg]
        rintro ⟨-, -, -, h, -⟩
        exact h x u hu (fun z => by rw [hu, z] at c4; simp at c4) e
      · rw [if_neg (fun z => e ((n48 x).1 z)), if_pos (by omega), if_pos (by omega)]
        refine FIN (fun y v hv _ => ?_)
        rw [hu] at hv
        cases hv; exact e
    · rw [if_neg c4, if_pos (by omega), if_pos (by omega)]
      refine FIN (fun y v hv hn => ?_)
      have : v.length = 0 := by rw [hv] at c4; simp at c4; omega
      exact absurd (List.length_eq_zero_iff.1 this) hn
  exact ⟨fun h1 h2 => by rw [H, if_pos ⟨h1, h2⟩], fun h => by rw [H, if_neg h]⟩
theorem rl_l (N : Int) (hN0 : 0 ≤ N) (hN1 : N < 10000000000) : ∀ (d : Nat) (r : List UInt8) (k : Nat), r.length + d = 9 → r.all dgt = true → d + 1 ≤ k →
    fuseeref43_Long.l0 k N (decv r) (r.length : Int) = if 1000000000 * N + decv (r ++ List.replicate d 48) ≤ 9223372036854775807 then some (1000000000 * N + decv (r ++ List.replicate d 48), 0) else some (0, 3) := by
  intro d
  induction d with
  | zero =>
    intro r k h hr hk
    obtain ⟨k, rfl⟩ : ∃ j, k = j + 1 := ⟨k - 1, by omega⟩
    have hb := decv_bd r hr; rw [show r.length = 9 by omega] at hb
    have p9 : (10 : Int) ^ 9 = 1000000000 := by decide
    simp only [fuseeref43_Long.l0, List.replicate_zero, List.append_nil]; rw [if_neg (by omega)]
    by_cases c1 : N > 9223372036
    · rw [if_pos c1, if_neg (by omega)]
    rw [if_neg c1]
    by_cases c2 : N = 9223372036
    · rw [if_pos c2]
      by_cases c3 : decv r > 854775807
      · rw [if_pos c3, if_neg (by omega)]
      · rw [if_neg c3, if_pos (by omega), wid (x := 1000000000 * N) (by omega) (by omega), wid (by omega) (by omega)]
    · rw [if_neg c2, if_pos (by omega), wid (x := 1000000000 * N) (by omega) (by omega), wid (by omega) (by omega)]
  | succ d ih =>
    intro r k h hr hk
    obtain ⟨k, rfl⟩ : ∃ j, k = j + 1 := ⟨k - 1, by omega⟩
    have hb := decv_bd r hr
    have hp : (10 : Int) ^ r.length ≤ 1000000000 := by
      have := Nat.pow_le_pow_right (n := 10) (by omega) (show r.length ≤ 9 by omega)
      have e : ((10 ^ r.length : Nat) : Int) = (10 : Int) ^ r.length := by simp
      have e2 : (10 : Nat) ^ 9 = 1000000000 := by decide
      omega
    conv => lhs; simp only [fuseeref43_Long.l0]
    rw [if_pos (by omega), wid (x := 10 * decv r) (by omega) (by omega), wid (x := (r.length : Int) + 1) (by omega) (by omega)]; have e := ih (r ++ [48]) k (by simp; omega) (by rw [List.all_append, hr]; rfl) (by omega); rw [decv_snoc, show dv 48 = 0 from rfl, Int.add_zero, show (((r ++ [(48 : UInt8)]).length : Nat) : Int) = (r.length : Int) + 1 by simp] at e; rw [e, List.append_assoc, show [48] ++ List.replicate d (48 : UInt8) = List.replicate (d + 1) 48 from rfl]
theorem goodA_split (k : Nat) (hk : 40 ≤ k) (a : List UInt8) (g : goodA a) :
    ∃ i c, a = i ++ [c] ∧ i.length ≤ 9 ∧ fuseeref07_Digits.f k ⟨i.toArray⟩ = some (decv i) ∧ fuseeref07_Digits.f k ⟨([c] : List UInt8).toArray⟩ = some (dv c) ∧ wrap64 (wrap64 (10 * decv i) + dv c) = decv a ∧ 0 ≤ decv a ∧ decv a < 10000000000 := by
  obtain ⟨g1, g2, -, g4⟩ := g; obtain ⟨i, c, rfl⟩ := snoc_ex a (fun e => by rw [e] at g1; simp at g1)
  have hl : i.length ≤ 9 := by simp at g2; omega
  have g4' := g4; rw [List.all_append, Bool.and_eq_true] at g4'; have hb := decv_bd i g4'.1
  have hp : (10 : Int) ^ i.length ≤ 1000000000 := by
    have := Nat.pow_le_pow_right (n := 10) (by omega) hl
    have e : ((10 ^ i.length : Nat) : Int) = (10 : Int) ^ i.length := by simp
    have e2 : (10 : Nat) ^ 9 = 1000000000 := by decide
    omega
  have hc : dgt c = true := by simpa using g4'.2
  have hd := dv_bd c hc
  refine ⟨i, c, rfl, hl, ?_, ?_, ?_, ?_, ?_⟩
  · rw [rdigs' k i (by omega) hl, rd_all i g4'.1]
  · rw [rdigs' k [c] (by omega) (by simp), rd_all [c] g4'.2]; have := decv_snoc [] c; rw [List.nil_append] at this; rw [this, show decv [] = 0 from rfl]; simp
  · rw [wid (x := 10 * decv i) (by omega) (by omega), wid (by omega) (by omega), decv_snoc]
  · rw [decv_snoc]; omega
  · rw [decv_snoc]; omega
theorem rl_one (k : Nat) (hk : 40 ≤ k) (a : List UInt8) (g : goodA a) :
    fuseeref43_Long.j1 (k + 1) [⟨a.toArray⟩] false = if 1000000000 * decv a ≤ 9223372036854775807 then some (1000000000 * decv a, 0) else some (0, 3) := by
  obtain ⟨i, c, ha, hl, d1, d2, hw, h0, h1⟩ := goodA_split k hk a g
  have hal : a.length = i.length + 1 := by rw [ha]; simp
  have asz : (((⟨a.toArray⟩ : ByteArray).size : Nat) : Int) = a.length := by rw [ba_size]
  have r0 : rdOf ByteArray.empty [(⟨a.toArray⟩ : ByteArray)] 0 = ⟨a.toArray⟩ := rfl
  conv => lhs; simp only [fuseeref43_Long.j1]
  rw [if_neg (by simp), r0, asz, if_pos (by simp), wid (x := (a.length : Int) - 1) (by omega) (by omega), if_pos (by omega), if_pos (by omega)]; rw [ext_eq a [] i [c] (by rw [ha]; rfl) 0 ((a.length : Int) - 1).toNat rfl (by simp; omega)]; rw [ext_eq a i [c] [] (by rw [ha]; simp) ((a.length : Int) - 1).toNat _ (by omega) (by rw [ba_size, hal]; simp), d1, d2]; simp only [Option.bind_some]; rw [if_neg (by simp), hw]
  by_cases c1 : decv a > 9223372036
  · rw [if_pos c1, if_neg (by omega)]
  · rw [if_neg c1, wid (x := 1000000000 * decv a) (by omega) (by omega), Int.add_zero, wid (x := 1000000000 * decv a) (by omega) (by omega), if_pos (by omega : 1000000000 * decv a ≤ 9223372036854775807)]
    split <;> rfl
theorem rl_two (k : Nat) (hk : 40 ≤ k) (a r : List UInt8) (g : goodA a) (hr : r.length ≤ 100) :
    (goodR r → fuseeref43_Long.j1 (k + 2) [⟨a.toArray⟩, ⟨r.toArray⟩] false = if 1000000000 * decv a + decv (r ++ List.replicate (9 - r.length) 48) ≤ 9223372036854775807 then some (1000000000 * decv a + decv (r ++ List.replicate (9 - r.length) 48), 0) else some (0, 3)) ∧
    (¬ goodR r → fuseeref43_Long.j1 (k + 2) [⟨a.toArray⟩, ⟨r.toArray⟩] false = some (0, 3)) := by
  obtain ⟨i, c, ha, hl, d1, d2, hw, h0, h1⟩ := goodA_split (k + 1) (by omega) a g
  have hal : a.length = i.length + 1 := by rw [ha]; simp
  have asz : (((⟨a.toArray⟩ : ByteArray).size : Nat) : Int) = a.length := by rw [ba_size]
  have rs : (((⟨r.toArray⟩ : ByteArray).size : Nat) : Int) = r.length := by rw [ba_size]
  have r0 : rdOf ByteArray.empty [(⟨a.toArray⟩ : ByteArray), ⟨r.toArray⟩] 0 = ⟨a.toArray⟩ := rfl; have r1 : rdOf ByteArray.empty [(⟨a.toArray⟩ : ByteArray), ⟨r.toArray⟩] 1 = ⟨r.toArray⟩ := rfl
  have START : fuseeref43_Long.j1 (k + 2) [⟨a.toArray⟩, ⟨r.toArray⟩] false = (if (r.length : Int) < 1 then fuseeref43_Long.j2 (k + 1) (decv a) ⟨r.toArray⟩ true else if (r.length : Int) > 9 then fuseeref43_Long.j2 (k + 1) (decv a) ⟨r.toArray⟩ true else if 0 ≤ wrap64 ((r.length : Int) - 1) then (if wrap64 ((r.length : Int) - 1) < (r.length : Int) then (if bt (⟨r.toArray⟩ : ByteArray) (wrap64 ((r.length : Int) - 1)) = 48 then fuseeref43_Long.j2 (k + 1) (decv a) ⟨r.toArray⟩ true else (fuseeref07_Digits.f (k + 1) ⟨r.toArray⟩).bind fun t127 => fuseeref43_Long.j2 (k + 1) (decv a) ⟨r.toArray⟩ (decide (t127 < 0))) else none) else none) := by
    conv => lhs; rw [fuseeref43_Long.j1]
    rw [if_neg (by simp), r0, r1, asz, rs, if_pos (by simp), wid (x := (a.length : Int) - 1) (by omega) (by omega), if_pos (by omega), if_pos (by omega)]; rw [ext_eq a [] i [c] (by rw [ha]; rfl) 0 ((a.length : Int) - 1).toNat rfl (by simp; omega)]; rw [ext_eq a i [c] [] (by rw [ha]; simp) ((a.length : Int) - 1).toNat _ (by omega) (by rw [ba_size, hal]; simp), d1, d2]; simp only [Option.bind_some]; rw [if_pos (by simp), if_pos (by simp), hw]
  have H : fuseeref43_Long.j1 (k + 2) [⟨a.toArray⟩, ⟨r.toArray⟩] false = if goodR r then (if 1000000000 * decv a + decv (r ++ List.replicate (9 - r.length) 48) ≤ 9223372036854775807 then some (1000000000 * decv a + decv (r ++ List.replicate (9 - r.length) 48), 0) else some (0, 3)) else some (0, 3) := by
    rw [START]
    by_cases c1 : (r.length : Int) < 1
    · rw [if_pos c1, rl_j2t _ (by omega), if_neg]
      rintro ⟨x, -⟩; omega
    rw [if_neg c1]
    by_cases c2 : (r.length : Int) > 9
    · rw [if_pos c2, rl_j2t _ (by omega), if_neg]
      rintro ⟨-, x, -⟩; omega
    rw [if_neg c2, wid (x := (r.length : Int) - 1) (by omega) (by omega), if_pos (by omega), if_pos (by omega)]; obtain ⟨j, e, hj⟩ := snoc_ex r (fun e => by rw [e] at c1; simp at c1); rw [bt_eq r j [] e hj ((r.length : Int) - 1) (by rw [hj]; simp)]
    by_cases c3 : e = 48
    · rw [if_pos ((n48 e).2 c3), rl_j2t _ (by omega), if_neg]
      rintro ⟨-, -, x, -⟩
      exact x j (by rw [hj, c3])
    rw [if_neg (fun z => c3 ((n48 e).1 z)), rdigs' (k + 1) r (by omega) (by omega)]; simp only [Option.bind_some]
    by_cases d : r.all dgt = true
    · rw [decide_eq_false (fun x => (rd_neg r).1 x d)]
      rw [if_pos ⟨by omega, by omega, fun i' h' => by
        rw [hj] at h'
        exact c3 (by have := (List.append_inj' h' rfl).2; simpa using this), d⟩]
      conv => lhs; rw [fuseeref43_Long.j2]
      rw [if_neg (by simp), rdigs' k r (by omega) (by omega), rd_all r d]; simp only [Option.bind_some]; rw [rs]
      exact rl_l (decv a) h0 h1 (9 - r.length) r k (by omega) d (by omega)
    · rw [decide_eq_true ((rd_neg r).2 d), rl_j2t _ (by omega), if_neg (fun x => d x.2.2.2)]
  exact ⟨fun h => by rw [H, if_pos h], fun h => by rw [H, if_neg h]⟩
end Go.Proofs.YtfjifhkgifefeaaGreatDoor.CivP
end

section
/- The document's Long answers just the texts of lengths. -/
namespace Go.Proofs.YtfjifhkgifefeaaGreatDoor.CivP
open Go.RowKit Go.Proofs.YtfjifhkgifefeaaGreatDoor.PA Go.Proofs.YtfjifhkgifefeaaGreatDoor.PT Go.Proofs.YtfjifhkgifefeaaGreatDoor.PU Go.Proofs.YtfjifhkgifefeaaGreatDoor.CivM Go.Proofs.YtfjifhkgifefeaaGreatDoor.StrM Go.Proofs.YtfjifhkgifefeaaGreatDoor.Giv Go.Proofs.YtfjifhkgifefeaaGreatDoorW.PrintWords
theorem pow_cast (w : Nat) : ((10 ^ w : Nat) : Int) = (10 : Int) ^ w := by simp
theorem good_itoa (a : List UInt8) (g : goodA a) : Lib.itoa (decv a) = a := by
  obtain ⟨g1, g2, g3, g4⟩ := g; have hb := decv_bd a g4
  obtain ⟨u, hu⟩ : ∃ u : Nat, decv a = u := ⟨(decv a).toNat, by omega⟩
  obtain ⟨w, hw⟩ : ∃ w, a.length = w + 1 := ⟨a.length - 1, by omega⟩
  have hlt : u < 10 ^ (w + 1) := by
    have := hb.2; rw [hu, hw, ← pow_cast] at this
    omega
  have p := padded_digs w u hlt; have dd := digs_decv a g4; rw [hw, hu] at dd; rw [dd] at p; have dl := dec_len w u hlt
  have hi : Lib.itoa (decv a) = Lib.decDigits u := by
    rw [hu]; unfold Lib.itoa; rw [if_neg (by omega), Int.toNat_natCast]
  rw [hi]
  by_cases z : w + 1 - (Lib.decDigits u).length = 0
  · rw [z] at p; simpa using p
  · exfalso
    obtain ⟨j, hj⟩ : ∃ j, w + 1 - (Lib.decDigits u).length = j + 1 := ⟨w + 1 - (Lib.decDigits u).length - 1, by omega⟩
    rw [hj, List.replicate_succ, List.cons_append] at p
    refine g3 48 _ p.symm (fun e => ?_) rfl
    have := congrArg List.length e
    simp at this
    rw [this.2] at dl; simp at dl
theorem itoa_good (q : Int) (h0 : 0 ≤ q) (h1 : q ≤ 9223372036) : goodA (Lib.itoa q) := by
  refine ⟨(itoa_ge q h0 (by omega)).1, itoa_short q h0 h1, ?_, itoa_all q h0 (by omega)⟩
  intro x t e hn hx
  subst hx; have v := itoa_val q h0 (by omega); have al := itoa_all q h0 (by omega); rw [e] at v al; have z := decv_zeros 1 t; rw [show List.replicate 1 (48 : UInt8) ++ t = 48 :: t from rfl, v] at z; have hb := decv_bd t (by rw [List.all_cons, Bool.and_eq_true] at al; exact al.2)
  obtain ⟨w, hw⟩ : ∃ w, t.length = w + 1 := ⟨t.length - 1, by
    have : t.length ≠ 0 := fun y => hn (List.length_eq_zero_iff.1 y)
    omega⟩
  obtain ⟨u, rfl⟩ : ∃ u : Nat, q = u := ⟨q.toNat, by omega⟩
  have dl := dec_len w u (by
    have := hb.2; rw [← z, hw, ← pow_cast] at this
    omega)
  unfold Lib.itoa at e
  rw [if_neg (by omega), Int.toNat_natCast] at e; rw [e] at dl; simp at dl; omega
theorem rep_all (k : Nat) : (List.replicate k (48 : UInt8)).all dgt = true := by
  rw [List.all_eq_true]; intro x hx; rw [List.eq_of_mem_replicate hx]; rfl
theorem good_rest (r : List UInt8) (g : goodR r) : 0 ≤ decv (r ++ List.replicate (9 - r.length) 48) ∧ decv (r ++ List.replicate (9 - r.length) 48) < 1000000000 ∧ restT (decv (r ++ List.replicate (9 - r.length) 48)) = r := by
  obtain ⟨g1, g2, g3, g4⟩ := g
  have al : (r ++ List.replicate (9 - r.length) 48).all dgt = true := by rw [List.all_append, g4, rep_all]; rfl
  have hb := decv_bd _ al
  have le : (r ++ List.replicate (9 - r.length) (48 : UInt8)).length = 9 := by simp; omega
  have p9 : (10 : Int) ^ 9 = 1000000000 := by decide
  have dd := digs_decv _ al; rw [le] at hb dd
  refine ⟨hb.1, by omega, ?_⟩
  unfold restT
  rw [dd]; obtain ⟨i, c, rfl⟩ := snoc_ex r (fun e => by rw [e] at g1; simp at g1)
  exact trim_app i c (fun e => g3 i (by rw [e])) _
theorem rest_good (m : Int) (h0 : 0 ≤ m) (h1 : m < 1000000000) : (restT m ≠ [] → goodR (restT m)) ∧ decv (restT m ++ List.replicate (9 - (restT m).length) 48) = m ∧ (restT m).all dgt = true := by
  obtain ⟨re, rl⟩ := restT_eq m
  have p9 : (10 : Int) ^ 9 = 1000000000 := by decide
  have al := digs_all 9 m h0; have al' := al; rw [← re, List.all_append, Bool.and_eq_true] at al'
  refine ⟨fun hn => ⟨?_, rl, ?_, al'.1⟩, by rw [re, decv_digs 9 m h0 (by omega)], al'.1⟩
  · have : (restT m).length ≠ 0 := fun y => hn (List.length_eq_zero_iff.1 y)
    omega
  · intro i hi
    rcases trim_last (digs 9 m) with h | ⟨a, c, h, hc⟩
    · exact hn h
    · unfold restT at hi
      rw [h] at hi
      exact hc (by have := (List.append_inj' hi rfl).2; simpa using this)
theorem fracT_eq (m : Int) : fracT m = if restT m = [] then [] else 46 :: restT m := rfl
theorem rl_start (k : Nat) (body : List UInt8) (h0 : 1 ≤ body.length) (h1 : body.length ≤ 100) : fuseeref43_Long.f k ⟨(body ++ [115]).toArray⟩ = fuseeref43_Long.j0 k ⟨(body ++ [115]).toArray⟩ false := by
  have sz : (((⟨(body ++ [115]).toArray⟩ : ByteArray).size : Nat) : Int) = body.length + 1 := by rw [ba_size]; simp
  unfold fuseeref43_Long.f
  rw [sz, if_neg (by omega), wid (by omega) (by omega), if_pos (by omega), if_pos (by omega)]; rw [bt_eq (body ++ [115]) body [] 115 rfl ((body.length : Int) + 1 - 1) (by omega)]
  rfl
theorem rl_bad (k : Nat) (hk : 1 ≤ k) (l : List UInt8) (hl : l.length ≤ 101) (h : ∀ body, l = body ++ [115] → body = []) : fuseeref43_Long.f k ⟨l.toArray⟩ = some (0, 3) := by
  unfold fuseeref43_Long.f
  by_cases c : (((⟨l.toArray⟩ : ByteArray).size : Nat) : Int) < 2
  · rw [if_pos c, rl_j0t k hk]
  · rw [if_neg c]; rw [ba_size] at c ⊢; obtain ⟨i, e, hi⟩ := snoc_ex l (fun x => by rw [x] at c; simp at c)
    have hil : l.length = i.length + 1 := by rw [hi]; simp
    rw [wid (by omega) (by omega), if_pos (by omega), if_pos (by omega)]; rw [bt_eq l i [] e hi ((l.length : Int) - 1) (by omega)]
    rw [show (((e.toNat : Nat) : Int) != 115) = true by
      rw [bne_iff_ne]
      intro x
      have := h i (by rw [hi, (n115 e).1 x])
      rw [this] at hil; simp at hil; omega]
    exact rl_j0t k hk _
theorem rlong_ok (k : Nat) (hk : 130 ≤ k) (l : List UInt8) (n : Int) (h : IsLen l n) : fuseeref43_Long.f k ⟨l.toArray⟩ = some (n, 0) := by
  obtain ⟨k, rfl⟩ : ∃ j, k = j + 3 := ⟨k - 3, by omega⟩
  obtain ⟨h0, h1, rfl⟩ := h
  have hq0 : 0 ≤ n / 1000000000 := by omega
  have hq1 : n / 1000000000 ≤ 9223372036 := by omega
  have hm0 : 0 ≤ n % 1000000000 := by omega
  have hm1 : n % 1000000000 < 1000000000 := by omega
  have ga := itoa_good _ hq0 hq1; have va := itoa_val _ hq0 (by omega); have na : (46 : UInt8) ∉ Lib.itoa (n / 1000000000) := all_not _ 46 (itoa_all _ hq0 (by omega)) rfl; obtain ⟨g1, g2, g3⟩ := rest_good _ hm0 hm1; have nr : (46 : UInt8) ∉ restT (n % 1000000000) := all_not _ 46 g3 rfl; have rl := (restT_eq (n % 1000000000)).2; have al := ga.1; have al2 := ga.2.1
  have el : lengthT n = (Lib.itoa (n / 1000000000) ++ fracT (n % 1000000000)) ++ [115] := by unfold lengthT; simp
  rw [el]
  by_cases z : restT (n % 1000000000) = []
  · have fe : fracT (n % 1000000000) = [] := by rw [fracT_eq, if_pos z]
    rw [fe, List.append_nil, rl_start _ _ al (by omega)]; have pn := pcs_none (Lib.itoa (n / 1000000000)) [] na; rw [List.nil_append] at pn; rw [(rl_j0 (k + 2) (by omega) _ _ [] (by omega) pn).1 (by simp) ga, rl_one (k + 1) (by omega) _ ga, va]; rw [z] at g2
    have d0 : decv (([] : List UInt8) ++ List.replicate (9 - ([] : List UInt8).length) 48) = 0 := by decide
    rw [d0] at g2; rw [if_pos (by omega)]
    exact congrArg some (by rw [show 1000000000 * (n / 1000000000) = n by omega])
  · have fe : fracT (n % 1000000000) = 46 :: restT (n % 1000000000) := by rw [fracT_eq, if_neg z]
    rw [fe, rl_start _ _ (by simp; omega) (by simp; omega)]; have pn := pcs_hit (Lib.itoa (n / 1000000000)) [] (restT (n % 1000000000)) na; rw [List.nil_append, pcs_none _ [] nr, List.nil_append] at pn; rw [(rl_j0 (k + 2) (by omega) _ _ _ (by simp; omega) pn).1 (by simp) ga, (rl_two k (by omega) _ _ ga (by omega)).1 (g1 z), va, g2, if_pos (by omega)]
    exact congrArg some (by rw [show 1000000000 * (n / 1000000000) + n % 1000000000 = n by omega])
theorem rlong_no (k : Nat) (hk : 130 ≤ k) (l : List UInt8) (hl : l.length ≤ 100) (h : ∀ n, ¬ IsLen l n) : fuseeref43_Long.f k ⟨l.toArray⟩ = some (0, 3) := by
  obtain ⟨k, rfl⟩ : ∃ j, k = j + 3 := ⟨k - 3, by omega⟩
  by_cases b : ∀ body, l = body ++ [115] → body = []
  · exact rl_bad _ (by omega) l (by omega) b
  obtain ⟨body, hb, hne⟩ : ∃ body, l = body ++ [115] ∧ body ≠ [] := by
    apply Classical.byContradiction
    intro x
    exact b (fun body e => Classical.byContradiction fun y => x ⟨body, e, y⟩)
  subst hb
  have bl : body.length + 1 ≤ 100 := by simpa using hl
  have b1 : 1 ≤ body.length := by
    have : body.length ≠ 0 := fun y => hne (List.length_eq_zero_iff.1 y)
    omega
  rw [rl_start _ _ b1 (by omega)]
  rcases first46 body with c | ⟨a, r, rfl, c⟩
  · have pn := pcs_none body [] c; rw [List.nil_append] at pn
    by_cases ga : goodA body
    · rw [(rl_j0 (k + 2) (by omega) _ _ [] (by omega) pn).1 (by simp) ga, rl_one (k + 1) (by omega) _ ga]
      by_cases v : 1000000000 * decv body ≤ 9223372036854775807
      · exfalso
        have hd := (decv_bd body ga.2.2.2).1
        refine h (1000000000 * decv body) ⟨by omega, v, ?_⟩
        unfold lengthT
        rw [show 1000000000 * decv body / 1000000000 = decv body by omega, show 1000000000 * decv body % 1000000000 = 0 by omega, good_itoa body ga, show fracT 0 = [] by decide +kernel]
        rfl
      · rw [if_neg v]
    · exact (rl_j0 (k + 2) (by omega) _ _ [] (by omega) pn).2 (fun x => ga x.2)
  · have pn := pcs_hit a [] r c; rw [List.nil_append] at pn
    have ll : a.length + r.length + 1 ≤ 99 := by simp at bl; omega
    by_cases c2 : 46 ∉ r
    · rw [pcs_none r [] c2, List.nil_append] at pn
      by_cases ga : goodA a
      · rw [(rl_j0 (k + 2) (by omega) _ _ _ (by omega) pn).1 (by simp) ga]
        by_cases gr : goodR r
        · rw [(rl_two k (by omega) _ _ ga (by omega)).1 gr]; obtain ⟨m0, m1, me⟩ := good_rest r gr
          by_cases v : 1000000000 * decv a + decv (r ++ List.replicate (9 - r.length) 48) ≤ 9223372036854775807
          · exfalso
            have hd := (decv_bd a ga.2.2.2).1
            generalize decv (r ++ List.replicate (9 - r.length) 48) = m at m0 m1 me v
            refine h (1000000000 * decv a + m) ⟨by omega, v, ?_⟩
            unfold lengthT
            have rn : restT m ≠ [] := by rw [me]; intro e; have := gr.1; rw [e] at this; simp at this
            rw [show (1000000000 * decv a + m) / 1000000000 = decv a by omega, show (1000000000 * decv a + m) % 1000000000 = m by omega, good_itoa a ga, fracT_eq, if_neg rn, me]
            simp
          · rw [if_neg v]
        · exact (rl_two k (by omega) _ _ ga (by omega)).2 gr
      · exact (rl_j0 (k + 2) (by omega) _ _ _ (by omega) pn).2 (fun x => ga x.2)
    · refine (rl_j0 (k + 2) (by omega) _ _ _ (by omega) pn).2 (fun x => ?_)
      have := pcs_two r [] c2
      omega
end Go.Proofs.YtfjifhkgifefeaaGreatDoor.CivP
end

section
namespace Go.Proofs.YtfjifhkgifefeaaGreatDoor.PT
open Go.Proofs.YtfjifhkgifefeaaGreatDoor.Giv Go.Proofs.YtfjifhkgifefeaaGreatDoor.PA Go.RowKit Go.Proofs.YtfjifhkgifefeaaGreatDoorW.PrintWords Go.Proofs.YtfjifhkgifefeaaGreatDoorW.PrintLast Go.Proofs.YtfjifhkgifefeaaGreatDoorW.PrintMore
attribute [local go_sem] max2_int min2_int max_two min_two max_three min_three max_four min_four   -- for this text's walks alone
set_option linter.unusedVariables false
set_option linter.unusedSimpArgs false
theorem eqA142 (d : Nat) (w : World) (x0 y0 : Int) (x1 y1 : Int) :
  (Op.equalIn (d + 2) 142 (.agg #[.int .i64 x0, .int .i64 x1]) (.agg #[.int .i64 y0, .int .i64 y1])).run Tryz.prog w = .ok (x0 == y0 && (x1 == y1)) w := by
 refine eqA_of Tryz.underlying142 (by kernel_rfl) ?_
 refine eqf_cons (by rfl) (by go_simp; rfl) (by go_simp; rfl) (by go_simp) ?_
 exact eqf_last (by rfl) (by go_simp; rfl) (by go_simp; rfl) (by go_simp)
end Go.Proofs.YtfjifhkgifefeaaGreatDoor.PT
end

section
namespace Go.Proofs.YtfjifhkgifefeaaGreatDoor.PT
open Giv PA Go.RowKit YtfjifhkgifefeaaGreatDoorW.PrintWords YtfjifhkgifefeaaGreatDoorW.PrintLast YtfjifhkgifefeaaGreatDoorW.PrintMore
attribute [local go_sem] max2_int min2_int max_two min_two max_three min_three max_four min_four
set_option linter.unusedVariables false
set_option linter.unusedSimpArgs false
attribute [local go_sem high] eqA142
def fuseelaw43_sure.f (k : Nat)  : Option (Bool) := (told_Text.f k 0 3600).bind fun bt242 => ((told_Length.f 1500000000).bind fun bt244 => ((told_Parse.f k (⟨#[49, 57, 55, 48, 45, 48, 49, 45, 48, 49, 84, 48, 48, 58, 48, 48, 58, 48, 48, 46, 48, 48, 48, 48, 48, 48, 48, 48, 49, 45, 48, 48, 58, 48, 48, 58, 48, 49]⟩ : ByteArray)).bind fun bt246 => ((told_Long.f k (⟨#[48, 46, 48, 48, 48, 48, 48, 48, 48, 48, 49, 115]⟩ : ByteArray)).bind fun bt250 => ((told_Parse.f k (⟨#[120]⟩ : ByteArray)).bind fun bt252 => (if bt242.2.isNone = true then (if bt244.2.isNone = true then (if bt246.2.2.isNone = true then (if bt250.2.isNone = true then (if bt242.1.toList = ([49, 57, 55, 48, 45, 48, 49, 45, 48, 49, 84, 48, 49, 58, 48, 48, 58, 48, 48, 46, 48, 48, 48, 48, 48, 48, 48, 48, 48, 43, 48, 49, 58, 48, 48] : List UInt8) then (if bt244.1.toList = ([49, 46, 53, 115] : List UInt8) then (if (bt246.1 == 1000000001 && (bt246.2.1 == (-1))) = true then (if bt250.1 = 1 then ((fuseelaw43_num.f bt252.2.2).bind fun t260 => (some (t260 == 3))) else (none)) else (none)) else (none)) else (none)) else (none)) else (none)) else (none)) else (none))))))
theorem fuseelaw43_sure.calls (k : Nat)  (r : Bool) (w : World) (hl_ : Laid w) (h : fuseelaw43_sure.f k  = some r) :
  Calls Tryz.prog 79 #[] w fun e w' => e = .returned (.bool r) ∧ Below w.heap.size w w' := by
 have hu142 := Tryz.underlying142; have hu28 := Tryz.underlying28; have hu157 := Tryz.underlying157; have HL := Aside0.mk hl_; clear hl_; have HB := Aside0.mk (Below.refl w.heap.size w); have H := h; clear h
 unfold fuseelaw43_sure.f at H
 replace H := Option.bind_eq_some_iff.mp H; obtain ⟨⟨t242, t243⟩, A10, H⟩ := H; (try dsimp only at H); have A1 := Aside0.mk A10; clear A10; replace H := Option.bind_eq_some_iff.mp H; obtain ⟨⟨t244, t245⟩, A20, H⟩ := H; (try dsimp only at H); have A2 := Aside0.mk A20; clear A20; replace H := Option.bind_eq_some_iff.mp H; obtain ⟨⟨t246, t247, t248⟩, A30, H⟩ := H; (try dsimp only at H); have A3 := Aside0.mk A30; clear A30; replace H := Option.bind_eq_some_iff.mp H; obtain ⟨⟨t250, t251⟩, A40, H⟩ := H; (try dsimp only at H); have A4 := Aside0.mk A40; clear A40; replace H := Option.bind_eq_some_iff.mp H; obtain ⟨⟨t252, t253, t254⟩, A50, H⟩ := H; (try dsimp only at H); have A5 := Aside0.mk A50; clear A50
 rcases t243 with _ | q256
 ·rw [if_pos (show (none : Option Int).isNone = true by rfl)] at H
  try dsimp only [Option.getD_some] at H
  try simp only [errW_none, errW_some]
  rcases t245 with _ | q257
  ·rw [if_pos (show (none : Option Int).isNone = true by rfl)] at H
   try dsimp only [Option.getD_some] at H
   try simp only [errW_none, errW_some]
   rcases t248 with _ | q258
   ·rw [if_pos (show (none : Option Int).isNone = true by rfl)] at H
    try dsimp only [Option.getD_some] at H
    try simp only [errW_none, errW_some]
    rcases t251 with _ | q259
    ·rw [if_pos (show (none : Option Int).isNone = true by rfl)] at H
     try dsimp only [Option.getD_some] at H
     try simp only [errW_none, errW_some]
     by_cases c6 : t242.toList = ([49, 57, 55, 48, 45, 48, 49, 45, 48, 49, 84, 48, 49, 58, 48, 48, 58, 48, 48, 46, 48, 48, 48, 48, 48, 48, 48, 48, 48, 43, 48, 49, 58, 48, 48] : List UInt8)
     ·rw [if_pos c6] at H; have c6b0 : (t242.toList == ([49, 57, 55, 48, 45, 48, 49, 45, 48, 49, 84, 48, 49, 58, 48, 48, 58, 48, 48, 46, 48, 48, 48, 48, 48, 48, 48, 48, 48, 43, 48, 49, 58, 48, 48] : List UInt8)) = true := beq_iff_eq.mpr c6; have c6b1 : (t242.toList != ([49, 57, 55, 48, 45, 48, 49, 45, 48, 49, 84, 48, 49, 58, 48, 48, 58, 48, 48, 46, 48, 48, 48, 48, 48, 48, 48, 48, 48, 43, 48, 49, 58, 48, 48] : List UInt8)) = false := bne_eq_false_iff_eq.mpr c6; clear c6
      by_cases c7 : t244.toList = ([49, 46, 53, 115] : List UInt8)
      ·rw [if_pos c7] at H; have c7b0 : (t244.toList == ([49, 46, 53, 115] : List UInt8)) = true := beq_iff_eq.mpr c7; have c7b1 : (t244.toList != ([49, 46, 53, 115] : List UInt8)) = false := bne_eq_false_iff_eq.mpr c7; clear c7
       by_cases c8 : (t246 == 1000000001 && (t247 == (-1))) = true
       ·rw [if_pos c8] at H; have c8b0 : (t246 == 1000000001 && (t247 == (-1))) = true := c8
        (try (have c8b1 : decide (t246 = 1000000001 && (t247 == (-1))) = true := by simpa using c8))
        (try (have c8b2 : (t246 == 1000000001 && (t247 == (-1))) = true := by simpa using c8))
        clear c8
        by_cases c9 : t250 = 1
        ·rw [if_pos c9] at H; have c9b0 : (t250 == 1) = true := beq_iff_eq.mpr c9; have c9b1 : (t250 != 1) = false := bne_eq_false_iff_eq.mpr c9; clear c9; replace H := Option.bind_eq_some_iff.mp H; obtain ⟨t260, A100, H⟩ := H; (try dsimp only at H); have A10 := Aside0.mk A100; clear A100
         obtain rfl := Option.some.inj H
         go_enter Tryz.func79, Tryz.ntmps79
         go_wp2_with (first | ((with_reducible refine gate_callee (f := 80) rfl ?_); refine gd_ (some 13) Tryz.func80 (told_Text.calls k 0 3600 t242 none _ lb_ A1.out) ?_; intro w11 hb; replace HB := bs_ hb; (try clear hb); (try simp only [errW_none, errW_some])) | ((with_reducible refine gate_callee (f := 84) rfl ?_); refine gd_ (some 17) Tryz.func84 (told_Length.calls 1500000000 t244 none _ lb_ A2.out) ?_; intro w12 hb; replace HB := bs_ hb; (try clear hb); (try simp only [errW_none, errW_some])) | ((with_reducible refine gate_callee (f := 82) rfl ?_); refine gd_ (some 21) Tryz.func82 (told_Parse.calls k (⟨#[49, 57, 55, 48, 45, 48, 49, 45, 48, 49, 84, 48, 48, 58, 48, 48, 58, 48, 48, 46, 48, 48, 48, 48, 48, 48, 48, 48, 49, 45, 48, 48, 58, 48, 48, 58, 48, 49]⟩ : ByteArray) t246 t247 none _ lb_ A3.out) ?_; intro w13 hb; replace HB := bs_ hb; (try clear hb); (try simp only [errW_none, errW_some])) | ((with_reducible refine gate_dst (N := 5) rfl ?_); refine be_ (N := 5) (cs := #[.int .i64 0, .int .i64 0]) (t := 142) ?_; intro gb249 hg w14 hbox hb; have BK249 := Aside0.mk hbox; have GW249 := Aside0.mk (sz_ hg : w.heap.size ≤ gb249); have GE249 := GW249; replace HB := bs_ hb; clear hb hbox hg; have hcz15_0 : w14.cell? ⟨gb249, 0, none⟩ = some (.int .i64 0) := (blk_cell BK249.out 0).trans rfl; have hcz15_1 : w14.cell? ⟨gb249, 1, none⟩ = some (.int .i64 0) := (blk_cell BK249.out 1).trans rfl; have hfz15_0 := blk_frozen BK249.out 0; have hfz15_1 := blk_frozen BK249.out 1) | ((with_reducible refine gate_callee (f := 86) rfl ?_); refine gd_ (some 25) Tryz.func86 (told_Long.calls k (⟨#[48, 46, 48, 48, 48, 48, 48, 48, 48, 48, 49, 115]⟩ : ByteArray) t250 none _ lb_ A4.out) ?_; intro w16 hb; replace BK249 := Aside0.mk (blk_below (g := gb249) (o := .cells #[.int .i64 t246, .int .i64 t247] 142 (0, 0)) (by (with_reducible repeat first | apply blk_drewN | apply blk_drew | apply blk_alloc); refine blk_put (cs := #[.int .i64 t246, .int .i64 0]) ?_ 1 _ rfl; (with_reducible repeat first | apply blk_drewN | apply blk_drew | apply blk_alloc); refine blk_put (cs := #[.int .i64 0, .int .i64 0]) ?_ 0 _ rfl; (with_reducible repeat first | apply blk_drewN | apply blk_drew | apply blk_alloc); exact BK249.out) hb); replace HB := bs_ hb; (try clear hb); (try simp only [errW_none, errW_some])) | ((with_reducible refine gate_callee (f := 82) rfl ?_); refine gd_ (some 29) Tryz.func82 (told_Parse.calls k (⟨#[120]⟩ : ByteArray) t252 t253 t254 _ lb_ A5.out) ?_; intro w17 hb; replace BK249 := bb_ BK249.out hb; replace HB := bs_ hb; (try clear hb); (try simp only [errW_none, errW_some])) | ((with_reducible refine gate_dst (N := 9) rfl ?_); refine be_ (N := 9) (cs := #[.int .i64 0, .int .i64 0]) (t := 142) ?_; intro gb255 hg w18 hbox hb; have BK255 := Aside0.mk hbox; have GW255 := Aside0.mk (sz_ hg : w.heap.size ≤ gb255); have GE255 := GW255; have NB249_255 := Aside0.mk ((by rw [hg]; exact Nat.ne_of_lt (blk_lt (g := gb249) (o := .cells #[.int .i64 t246, .int .i64 t247] 142 (0, 0)) bk_) : gb249 ≠ gb255)); have NB255_249 := Aside0.mk ((by rw [hg]; exact Nat.ne_of_gt (blk_lt (g := gb249) (o := .cells #[.int .i64 t246, .int .i64 t247] 142 (0, 0)) bk_) : gb255 ≠ gb249)); replace BK249 := bb_ BK249.out hb; replace HB := bs_ hb; clear hb hbox hg; have hnb19 := NB255_249.out; have hnc19 := NB249_255.out; have hcz20_0 : w18.cell? ⟨gb255, 0, none⟩ = some (.int .i64 0) := (blk_cell BK255.out 0).trans rfl; have hcz20_1 : w18.cell? ⟨gb255, 1, none⟩ = some (.int .i64 0) := (blk_cell BK255.out 1).trans rfl; have hfz20_0 := blk_frozen BK255.out 0; have hfz20_1 := blk_frozen BK255.out 1; have hcz21_0 : w18.cell? ⟨gb249, 0, none⟩ = some (.int .i64 t246) := (blk_cell BK249.out 0).trans rfl; have hcz21_1 : w18.cell? ⟨gb249, 1, none⟩ = some (.int .i64 t247) := (blk_cell BK249.out 1).trans rfl; have hfz21_0 := blk_frozen BK249.out 0; have hfz21_1 := blk_frozen BK249.out 1; have CA10 := fun W HL_ => fuseelaw43_num.calls t254 t260 W HL_ A10.out; try simp only [errW_none, errW_some] at CA10) | (go_at_call 88; (with_reducible refine (CA10 _ lb_).mono ?_); rintro e w22 ⟨rfl, hb⟩; replace BK249 := Aside0.mk (blk_below (g := gb249) (o := .cells #[.int .i64 t246, .int .i64 t247] 142 (0, 0)) (by (with_reducible repeat first | apply blk_drewN | apply blk_drew | apply blk_alloc); refine blk_far ?_ NB249_255.out _; (with_reducible repeat first | apply blk_drewN | apply blk_drew | apply blk_alloc); refine blk_far ?_ NB249_255.out _; (with_reducible repeat first | apply blk_drewN | apply blk_drew | apply blk_alloc); exact BK249.out) hb); replace BK255 := Aside0.mk (blk_below (g := gb255) (o := .cells #[.int .i64 t252, .int .i64 t253] 142 (0, 0)) (by (with_reducible repeat first | apply blk_drewN | apply blk_drew | apply blk_alloc); refine blk_put (cs := #[.int .i64 t252, .int .i64 0]) ?_ 1 _ rfl; (with_reducible repeat first | apply blk_drewN | apply blk_drew | apply blk_alloc); refine blk_put (cs := #[.int .i64 0, .int .i64 0]) ?_ 0 _ rfl; (with_reducible repeat first | apply blk_drewN | apply blk_drew | apply blk_alloc); exact BK255.out) hb); replace HB := bs_ hb; (try clear hb)))
         go_ret
         exact en_
        ·rw [if_neg c9] at H; exact absurd H (by simp)
       ·rw [if_neg c8] at H; exact absurd H (by simp)
      ·rw [if_neg c7] at H; exact absurd H (by simp)
     ·rw [if_neg c6] at H; exact absurd H (by simp)
    ·rw [if_neg (show ¬ (some q259).isNone = true by simp)] at H
     try dsimp only [Option.getD_some] at H
     try simp only [errW_none, errW_some]
     exact absurd H (by simp)
   ·rw [if_neg (show ¬ (some q258).isNone = true by simp)] at H
    try dsimp only [Option.getD_some] at H
    try simp only [errW_none, errW_some]
    exact absurd H (by simp)
  ·rw [if_neg (show ¬ (some q257).isNone = true by simp)] at H
   try dsimp only [Option.getD_some] at H
   try simp only [errW_none, errW_some]
   exact absurd H (by simp)
 ·rw [if_neg (show ¬ (some q256).isNone = true by simp)] at H
  try dsimp only [Option.getD_some] at H
  try simp only [errW_none, errW_some]
  exact absurd H (by simp)
end Go.Proofs.YtfjifhkgifefeaaGreatDoor.PT
end

section
/- An error against nil, undecided: one Bool. -/
namespace Go.Proofs.YtfjifhkgifefeaaGreatDoor.Giv
open Go.RowKit Go.Proofs.YtfjifhkgifefeaaGreatDoor
@[go_sem] theorem eqGuard_errW (op : BinOp) (t : TypeId) (x : Operand) (c : Value) (r : Option Int) : eqGuard op t x (.const c) (errW r) .nilIface = pure () := by
  cases op <;> cases r <;> first | rfl | (simp [eqGuard, errW])
@[go_sem] theorem eql_errW (r : Option Int) (w : World) : (binOp .eql 28 (errW r) .nilIface).run Tryz.prog w = .ok (.bool r.isNone) w := by
  have h := Tryz.underlying28
  cases r
  · exact run_eql_nil_nil w 28 (by kernel_rfl)
  · exact run_eql_held_nil w 28 _ _ (by kernel_rfl)
@[go_sem] theorem neq_errW (r : Option Int) (w : World) : (binOp .neq 28 (errW r) .nilIface).run Tryz.prog w = .ok (.bool r.isSome) w := by
  cases r
  · exact run_neq_nil_nil w 28 (by kernel_rfl)
  · exact run_neq_held_nil w 28 _ _ (by kernel_rfl)
theorem isSome_f {t : Option Int} (h : t.isNone = true) : t.isSome = false := by cases t <;> simp_all
theorem isNone_f {t : Option Int} (h : ¬ t.isNone = true) : t.isNone = false := by cases t <;> simp_all
theorem isSome_t {t : Option Int} (h : ¬ t.isNone = true) : t.isSome = true := by cases t <;> simp_all
end Go.Proofs.YtfjifhkgifefeaaGreatDoor.Giv
end

section
namespace Go.Proofs.YtfjifhkgifefeaaGreatDoor.PV
open Go.Proofs.YtfjifhkgifefeaaGreatDoor.Giv Go.Proofs.YtfjifhkgifefeaaGreatDoor.PA Go.Proofs.YtfjifhkgifefeaaGreatDoor.PT Go.Proofs.YtfjifhkgifefeaaGreatDoor.PU Go.RowKit Go.Proofs.YtfjifhkgifefeaaGreatDoorW.PrintWords Go.Proofs.YtfjifhkgifefeaaGreatDoorW.PrintLast Go.Proofs.YtfjifhkgifefeaaGreatDoorW.PrintMore
attribute [local go_sem] max2_int min2_int max_two min_two max_three min_three max_four min_four   -- for this text's walks alone
set_option linter.unusedVariables false
set_option linter.unusedSimpArgs false
end Go.Proofs.YtfjifhkgifefeaaGreatDoor.PV
end

section
namespace Go.Proofs.YtfjifhkgifefeaaGreatDoor.PV
open Go.Proofs.YtfjifhkgifefeaaGreatDoor.Giv Go.Proofs.YtfjifhkgifefeaaGreatDoor.PA Go.Proofs.YtfjifhkgifefeaaGreatDoor.PT Go.Proofs.YtfjifhkgifefeaaGreatDoor.PU Go.RowKit Go.Proofs.YtfjifhkgifefeaaGreatDoorW.PrintWords Go.Proofs.YtfjifhkgifefeaaGreatDoorW.PrintLast Go.Proofs.YtfjifhkgifefeaaGreatDoorW.PrintMore
attribute [local go_sem] max2_int min2_int max_two min_two max_three min_three max_four min_four   -- for this text's walks alone
set_option linter.unusedVariables false
set_option linter.unusedSimpArgs false
theorem eqA142 (d : Nat) (w : World) (x0 y0 : Int) (x1 y1 : Int) :
  (Op.equalIn (d + 2) 142 (.agg #[.int .i64 x0, .int .i64 x1]) (.agg #[.int .i64 y0, .int .i64 y1])).run Tryz.prog w = .ok (x0 == y0 && (x1 == y1)) w := by
 refine eqA_of Tryz.underlying142 (by kernel_rfl) ?_
 refine eqf_cons (by rfl) (by go_simp; rfl) (by go_simp; rfl) (by go_simp) ?_
 exact eqf_last (by rfl) (by go_simp; rfl) (by go_simp; rfl) (by go_simp)
end Go.Proofs.YtfjifhkgifefeaaGreatDoor.PV
end

section
namespace Go.Proofs.YtfjifhkgifefeaaGreatDoor.PV
open Giv PA PT PU Go.RowKit YtfjifhkgifefeaaGreatDoorW.PrintWords YtfjifhkgifefeaaGreatDoorW.PrintLast YtfjifhkgifefeaaGreatDoorW.PrintMore
attribute [local go_sem] max2_int min2_int max_two min_two max_three min_three max_four min_four
set_option linter.unusedVariables false
set_option linter.unusedSimpArgs false
attribute [local go_sem high] eqA142
mutual
def fuseelaw43_ToldBack.j1 : Nat → Int → Option (Bool)
 | 0, _ => none
 | k + 1, x2 => (told_Length.f x2).bind fun bt140 => ((told_Long.f k bt140.1).bind fun bt142 => (if x2 < 0 then ((fuseelaw43_num.f bt140.2).bind fun t144 => (if t144 = 1 then ((fuseelaw43_num.f bt142.2).bind fun t145 => (if t145 = 3 then ((fuseelaw43_sure.f k).bind fun t146 => (some t146)) else (none))) else (none))) else (if bt140.2.isNone = true then (if bt142.2.isNone = true then (if bt142.1 = x2 then ((fuseelaw43_sure.f k).bind fun t147 => (some t147)) else (none)) else (none)) else (none))))
def fuseelaw43_ToldBack.j0 : Nat → Int → Bool → Option (Bool)
 | 0, _, _ => none
 | k + 1, x2, x67 => if x67 = true then (none) else (fuseelaw43_ToldBack.j1 k x2)
end
def fuseelaw43_ToldBack.f (k : Nat) (a0_0 : Int) (a0_1 : Int) (a1 : Int) (a2 : Int) : Option (Bool) := (told_Text.f k a0_0 a0_1).bind fun bt132 => (if bt132.2.isNone = true then ((told_Parse.f k bt132.1).bind fun bt134 => (if bt134.2.2.isNone = true then (if (!(bt134.1 == a0_0) || (!(bt134.2.1 == a0_1))) = true then (none) else ((told_Text.f k a1 a0_1).bind fun bt138 => (if bt138.2.isNone = true then (if ((decide (a0_0 < a1)) != (Op.bytesLess bt132.1.toList bt138.1.toList)) = true then (none) else (fuseelaw43_ToldBack.j0 k a2 ((a0_0 == a1) != (bt132.1.toList == bt138.1.toList)))) else (fuseelaw43_ToldBack.j0 k a2 false)))) else (none))) else (fuseelaw43_ToldBack.j1 k a2))
end Go.Proofs.YtfjifhkgifefeaaGreatDoor.PV
end

section
/- The pure law of ToldBack: a moment, and a length, come back from their texts; of two moments to which the same is added, the later one is the greater text. -/
namespace Go.Proofs.YtfjifhkgifefeaaGreatDoor.CivP
open Go.RowKit Go.Proofs.YtfjifhkgifefeaaGreatDoor.PA Go.Proofs.YtfjifhkgifefeaaGreatDoor.PT Go.Proofs.YtfjifhkgifefeaaGreatDoor.CivM Go.Proofs.YtfjifhkgifefeaaGreatDoor.StrM Go.Proofs.YtfjifhkgifefeaaGreatDoor.Giv Go.Proofs.YtfjifhkgifefeaaGreatDoorW.PrintWords
theorem sure43 (k : Nat) (hk : 30 ≤ k) : fuseelaw43_sure.f k = some true := by
  unfold fuseelaw43_sure.f
  obtain ⟨y, m, d, v, hn, e1⟩ := ttext_ok k (by omega) 0 3600 (by decide)
  have v1 : vld 1970 1 1 := by decide
  obtain ⟨rfl, rfl, rfl⟩ := num_inj v v1 (by rw [hn]; decide)
  have q1 : stext 1970 1 1 (secT 0 3600) (0 % 1000000000) ++ addT 3600 = [49, 57, 55, 48, 45, 48, 49, 45, 48, 49, 84, 48, 49, 58, 48, 48, 58, 48, 48, 46, 48, 48, 48, 48, 48, 48, 48, 48, 48, 43, 48, 49, 58, 48, 48] := by decide +kernel
  rw [q1] at e1; have e2 := tLength 1500000000 (by omega) (by omega)
  have q2 : lengthT 1500000000 = [49, 46, 53, 115] := by decide +kernel
  rw [q2] at e2; have e3 := tparse_ok k hk [49, 57, 55, 48, 45, 48, 49, 45, 48, 49, 84, 48, 48, 58, 48, 48, 58, 48, 48, 46, 48, 48, 48, 48, 48, 48, 48, 48, 49, 45, 48, 48, 58, 48, 48, 58, 48, 49] 1000000001 (-1) ⟨by decide, 1970, 1, 1, v1, by decide, by decide +kernel⟩; have e4 := tlong_ok k (by omega) [48, 46, 48, 48, 48, 48, 48, 48, 48, 48, 49, 115] 1 ⟨by omega, by omega, by decide +kernel⟩
  have e5 : told_Parse.f k ⟨#[120]⟩ = some (0, 0, some 3) := by unfold told_Parse.f; rw [if_pos (by decide)]
  rw [e1]; simp only [Option.bind_some]; rw [e2]; simp only [Option.bind_some]
  refine (congrArg (fun z => Option.bind z _) e3).trans ?_
  simp only [Option.bind_some]
  refine (congrArg (fun z => Option.bind z _) e4).trans ?_
  simp only [Option.bind_some]; rw [e5]; simp only [Option.bind_some, Option.isNone_none, if_true]; rw [if_pos (by rw [ByteArray.toList_eq]), if_pos (by rw [ByteArray.toList_eq]), if_pos (by decide)]
  rfl
theorem mom_order (a b u : Int) {y m d y' m' d' : Int} (ha : may43 a b) (hu : may43 u b) (v : vld y m d) (hn : num y m d = dayT a b) (v' : vld y' m' d') (hn' : num y' m' d' = dayT u b) :
    (stext y m d (secT a b) (a % 1000000000) ++ addT b < stext y' m' d' (secT u b) (u % 1000000000) ++ addT b ↔ a < u) ∧
    (stext y m d (secT a b) (a % 1000000000) ++ addT b = stext y' m' d' (secT u b) (u % 1000000000) ++ addT b ↔ a = u) := by
  have s1 := secT_bd a b; have s2 := secT_bd u b
  have D : ∀ x : Int, dayT x b * 86400 + secT x b = x / 1000000000 + b := fun x => by unfold dayT secT; omega
  have d1 := D a; have d2 := D u; have irr : ¬ (addT b < addT b) := List.lt_irrefl _
  constructor
  · rw [lt_app _ _ _ _ (by rw [stext_len v, stext_len v']), stext_lt v v' s1.1 (by omega) (by omega) (by omega) s2.1 (by omega) (by omega) (by omega), hn, hn']
    constructor
    · rintro (h | h)
      · omega
      · exact absurd h.2 irr
    · intro h; left; omega
  · constructor
    · intro h
      have h2 := (List.append_inj h (by rw [stext_len v, stext_len v'])).1; obtain ⟨q1, q2, q3⟩ := stext_inj v v' s1.1 (by omega) (by omega) (by omega) s2.1 (by omega) (by omega) (by omega) h2; rw [hn, hn'] at q1
      omega
    · rintro rfl
      obtain ⟨rfl, rfl, rfl⟩ := num_inj v v' (by rw [hn, hn'])
      rfl
end Go.Proofs.YtfjifhkgifefeaaGreatDoor.CivP
namespace Go.Proofs.YtfjifhkgifefeaaGreatDoor.Pure
open Go.RowKit Go.Proofs.YtfjifhkgifefeaaGreatDoor.PA Go.Proofs.YtfjifhkgifefeaaGreatDoor.PT Go.Proofs.YtfjifhkgifefeaaGreatDoor.PV Go.Proofs.YtfjifhkgifefeaaGreatDoor.CivM Go.Proofs.YtfjifhkgifefeaaGreatDoor.CivP Go.Proofs.YtfjifhkgifefeaaGreatDoor.StrM Go.Proofs.YtfjifhkgifefeaaGreatDoor.Giv Go.Proofs.YtfjifhkgifefeaaGreatDoorW.PrintWords
theorem tback_j1 (k : Nat) (hk : 30 ≤ k) (n : Int) (h0 : -9223372036854775808 ≤ n) (h1 : n ≤ 9223372036854775807) : fuseelaw43_ToldBack.j1 (k + 1) n = some true := by
  simp only [fuseelaw43_ToldBack.j1]
  by_cases c : n < 0
  · rw [tLength_neg n c]; simp only [Option.bind_some]
    have e : told_Long.f k ⟨#[]⟩ = some (0, some 3) := tlong_no k (by omega) [] (by simp) (fun n h => by
      obtain ⟨a, b, e⟩ := h; have := lengthT_len n a b
      rw [← e] at this; simp at this)
    rw [e]; simp only [Option.bind_some, if_pos c, fuseelaw43_num.f, Option.getD_some, if_true]; rw [sure43 k hk]; rfl
  · rw [tLength n (by omega) h1]; simp only [Option.bind_some]; rw [tlong_ok k (by omega) _ n ⟨by omega, h1, rfl⟩]; simp only [Option.bind_some, if_neg c, Option.isNone_none, if_true]; rw [sure43 k hk]; rfl
theorem ToldBack (a b u n : Int) (a0 : -9223372036854775808 ≤ a) (a1 : a ≤ 9223372036854775807) (b0 : -9223372036854775808 ≤ b) (b1 : b ≤ 9223372036854775807) (u0 : -9223372036854775808 ≤ u) (u1 : u ≤ 9223372036854775807) (n0 : -9223372036854775808 ≤ n) (n1 : n ≤ 9223372036854775807) :
    ∃ k, fuseelaw43_ToldBack.f k a b u n = some true := by
  refine ⟨30 + 2, ?_⟩
  unfold fuseelaw43_ToldBack.f
  by_cases c : may43 a b
  · obtain ⟨y, m, d, v, hn, e⟩ := ttext_ok (30 + 2) (by omega) a b c; rw [e]; simp only [Option.bind_some, Option.isNone_none, if_true]; rw [tparse_ok (30 + 2) (by omega) _ a b ⟨c, y, m, d, v, hn, rfl⟩]; simp only [Option.bind_some, Option.isNone_none, if_true]; rw [if_neg (by simp)]
    by_cases c2 : may43 u b
    · obtain ⟨y', m', d', v', hn', e'⟩ := ttext_ok (30 + 2) (by omega) u b c2; obtain ⟨o1, o2⟩ := mom_order a b u c c2 v hn v' hn'; rw [e']; simp only [Option.bind_some, Option.isNone_none, if_true]; rw [bytesLess_eq, ByteArray.toList_eq, ByteArray.toList_eq]
      have e1 : (decide (a < u) != decide (stext y m d (secT a b) (a % 1000000000) ++ addT b < stext y' m' d' (secT u b) (u % 1000000000) ++ addT b)) = false := by
        simp only [o1, bne_self_eq_false]
      have e2 : ((a == u) != (stext y m d (secT a b) (a % 1000000000) ++ addT b == stext y' m' d' (secT u b) (u % 1000000000) ++ addT b)) = false := by
        have : (stext y m d (secT a b) (a % 1000000000) ++ addT b == stext y' m' d' (secT u b) (u % 1000000000) ++ addT b) = (a == u) := by
          rw [Bool.eq_iff_iff]; simp only [beq_iff_eq]; exact o2
        rw [this]; simp
      refine (if_neg (by rw [show (decide (a < u) != decide (_ < _)) = false from e1]; simp)).trans ?_
      refine (congrArg (fuseelaw43_ToldBack.j0 (30 + 2) n) e2).trans ?_
      simp only [fuseelaw43_ToldBack.j0]; rw [if_neg (by simp)]
      exact tback_j1 30 (by omega) n n0 n1
    · rw [ttext_no (30 + 2) u b u0 u1 b0 b1 c2]; simp only [Option.bind_some, Option.isNone_some, Bool.false_eq_true, if_false]; simp only [fuseelaw43_ToldBack.j0]; rw [if_neg (by simp)]
      exact tback_j1 30 (by omega) n n0 n1
  · rw [ttext_no (30 + 2) a b a0 a1 b0 b1 c]; simp only [Option.bind_some, Option.isNone_some, Bool.false_eq_true, if_false]
    exact tback_j1 31 (by omega) n n0 n1
end Go.Proofs.YtfjifhkgifefeaaGreatDoor.Pure
end

section
namespace Go.Proofs.YtfjifhkgifefeaaGreatDoor.PV
open Giv PA PT PU Go.RowKit YtfjifhkgifefeaaGreatDoorW.PrintWords YtfjifhkgifefeaaGreatDoorW.PrintLast YtfjifhkgifefeaaGreatDoorW.PrintMore
attribute [local go_sem] max2_int min2_int max_two min_two max_three min_three max_four min_four
set_option linter.unusedVariables false
set_option linter.unusedSimpArgs false
attribute [local go_sem high] eqA142
def fuseelaw43_ToldTexts.f (k : Nat) (a0_0 : Int) (a0_1 : Int) (a1 : Int) (a2 : ByteArray) : Option (Bool) := if (a2.size : Int) > 100 then ((fuseelaw43_sure.f k).bind fun t102 => (some t102)) else ((told_Text.f k a0_0 a0_1).bind fun bt103 => ((fuseeref43_Text.f k a0_0 a0_1).bind fun bt105 => ((told_Parse.f k a2).bind fun bt107 => ((fuseeref43_Parse.f k a2).bind fun bt111 => ((told_Length.f a1).bind fun bt115 => ((fuseeref43_Length.f k a1).bind fun bt117 => ((told_Long.f k a2).bind fun bt119 => ((fuseeref43_Long.f k a2).bind fun bt121 => (if bt103.1.toList = bt105.1.toList then ((fuseelaw43_num.f bt103.2).bind fun t123 => (if t123 = bt105.2 then (if (bt107.1 == bt111.1 && (bt107.2.1 == bt111.2.1)) = true then ((fuseelaw43_num.f bt107.2.2).bind fun t124 => (if t124 = bt111.2.2 then (if bt115.1.toList = bt117.1.toList then ((fuseelaw43_num.f bt115.2).bind fun t125 => (if t125 = bt117.2 then (if bt119.1 = bt121.1 then ((fuseelaw43_num.f bt119.2).bind fun t126 => (if t126 = bt121.2 then ((told_Check.f a0_0 a0_1).bind fun t127 => ((fuseeref43_May.f a0_0 a0_1).bind fun t128 => (if (t127.isNone == t128) = true then ((fuseelaw43_sure.f k).bind fun t129 => (some t129)) else (none)))) else (none))) else (none)) else (none))) else (none)) else (none))) else (none)) else (none))) else (none))))))))))
def fuseelaw43_ToldTexts.T11 : Bool × List (List Nat × List Nat) := (true, [([], []), ([], []), ([0, 1], [0, 1]), ([2], [2]), ([3], [3]), ([4, 3, 3], [3, 4]), ([3], [3]), ([5, 6, 3], [3, 5, 6]), ([3, 7], [3, 7]), ([8, 5], [8]), ([9], [9]), ([9], [9]), ([10, 11, 9], [9, 10, 11]), ([9, 12], [9, 12]), ([13, 9], [13]), ([14], [14]), ([15, 14, 14], [14, 15]), ([14], [14]), ([16, 17, 14], [14, 16, 17]), ([14, 18], [14, 18]), ([19, 16], [19]), ([20], [20]), ([20], [20]), ([21, 22, 20], [20, 21, 22]), ([20, 23], [20, 23]), ([24, 20], [24]), ([25], [25]), ([26, 25, 25], [25, 26]), ([25], [25]), ([27, 28, 25], [25, 27, 28]), ([25, 29], [25, 29]), ([30, 27], [30]), ([31], [31]), ([31], [31]), ([32, 33, 31], [31, 32, 33]), ([31, 34], [31, 34]), ([35, 31], [35]), ([36], [36]), ([37, 36, 36], [36, 37]), ([36], [36]), ([38, 39, 36], [36, 38, 39]), ([36, 40], [36, 40]), ([41, 38], [41]), ([42], [42]), ([43, 42, 42], [42, 43]), ([44, 42], [42, 44]), ([42], [42]), ([46, 44, 42], [42, 46]), ([45, 47, 42], [42, 45, 47]), ([42, 48], [42, 48]), ([49, 47], [49]), ([50, 50], [50]), ([50, 51], [50, 51]), ([52, 51, 0, 1, 2, 3, 4, 5, 6, 7, 8, 9, 10, 11, 12, 13, 14, 15, 16, 17, 18, 19, 20, 21, 22, 23, 24, 25, 26, 27, 28, 29, 30, 31, 32, 33, 34, 35, 36, 37, 38, 39, 40, 41, 42, 43, 44, 45, 46, 47, 48, 49, 50, 51, 52], [52])])
def fuseelaw43_ToldTexts.B11 : List Nat := [0, 0, 3, 7, 15, 31, 15, 127, 255, 511, 1023, 1023, 4095, 8191, 16383, 32767, 65535, 32767, 262143, 524287, 1048575, 2097151, 2097151, 8388607, 16777215, 33554431, 67108863, 134217727, 67108863, 536870911, 1073741823, 2147483647, 4294967295, 4294967295, 17179869183, 34359738367, 68719476735, 137438953471, 274877906943, 137438953471, 1099511627775, 2199023255551, 4398046511103, 8796093022207, 17592186044415, 35184372088831, 8796093022207, 105553116266495, 281474976710655, 562949953421311, 1125899906842623, 2251799813685247, 4503599627370495, 9007199254740991]
theorem fuseelaw43_ToldTexts.tab11 : rtab .any (opsOf Tryz.f12 11) = fuseelaw43_ToldTexts.T11 := by kernel_rfl
theorem fuseelaw43_ToldTexts.bits11 : waitsOk fuseelaw43_ToldTexts.T11.2 fuseelaw43_ToldTexts.B11 = true := by kernel_rfl
theorem fuseelaw43_ToldTexts.calls (k : Nat) (a0_0 : Int) (a0_1 : Int) (a1 : Int) (a2 : ByteArray) (r : Bool) (w : World) (hl_ : Laid w) (h : fuseelaw43_ToldTexts.f k a0_0 a0_1 a1 a2 = some r) :
  Calls Tryz.prog 12 #[.agg #[.int .i64 a0_0, .int .i64 a0_1], .int .i64 a1, .string a2] w fun e w' => e = .returned (.bool r) ∧ Below w.heap.size w w' := by
 have hu140 := Tryz.underlying140; have hu142 := Tryz.underlying142; have hu28 := Tryz.underlying28; have HL := Aside0.mk hl_; clear hl_; have HB := Aside0.mk (Below.refl w.heap.size w); have H := h; clear h
 unfold fuseelaw43_ToldTexts.f at H
 by_cases c4 : (a2.size : Int) > 100
 ·rw [if_pos c4] at H; have c4b0 : decide (100 < (a2.size : Int)) = true := decide_eq_true c4; have c4b1 : decide (100 < a2.size) = true := decide_eq_true (by omega); clear c4; replace H := Option.bind_eq_some_iff.mp H; obtain ⟨t102, A50, H⟩ := H; (try dsimp only at H); have A5 := Aside0.mk A50; clear A50
  obtain rfl := Option.some.inj H
  go_enter Tryz.func12, Tryz.ntmps12
  go_wp2_with (first | ((with_reducible refine gate_dst (N := 3) rfl ?_); refine be_ (N := 3) (cs := #[.int .i64 a0_0, .int .i64 a0_1]) (t := 140) ?_; intro gb101 hg w6 hbox hb; have BK101 := Aside0.mk hbox; have GW101 := Aside0.mk (sz_ hg : w.heap.size ≤ gb101); have GE101 := GW101; replace HB := bs_ hb; clear hb hbox hg) | ((with_reducible refine gate_callee (f := 79) rfl ?_); refine gd_ (some 26) Tryz.func79 (fuseelaw43_sure.calls k  t102 _ lb_ A5.out) ?_; intro w7 hb; replace BK101 := bb_ BK101.out hb; replace HB := bs_ hb; (try clear hb)))
  go_ret
  exact en_
 ·rw [if_neg c4] at H; have c4b0 : decide (100 < (a2.size : Int)) = false := decide_eq_false c4; have c4b1 : decide (100 < a2.size) = false := decide_eq_false (by omega); clear c4; replace H := Option.bind_eq_some_iff.mp H; obtain ⟨⟨t103, t104⟩, A80, H⟩ := H; (try dsimp only at H); have A8 := Aside0.mk A80; clear A80; replace H := Option.bind_eq_some_iff.mp H; obtain ⟨⟨t105, t106⟩, A90, H⟩ := H; (try dsimp only at H); have A9 := Aside0.mk A90; clear A90; replace H := Option.bind_eq_some_iff.mp H; obtain ⟨⟨t107, t108, t109⟩, A100, H⟩ := H; (try dsimp only at H); have A10 := Aside0.mk A100; clear A100; replace H := Option.bind_eq_some_iff.mp H; obtain ⟨⟨t111, t112, t113⟩, A110, H⟩ := H; (try dsimp only at H); have A11 := Aside0.mk A110; clear A110; replace H := Option.bind_eq_some_iff.mp H; obtain ⟨⟨t115, t116⟩, A120, H⟩ := H; (try dsimp only at H); have A12 := Aside0.mk A120; clear A120; replace H := Option.bind_eq_some_iff.mp H; obtain ⟨⟨t117, t118⟩, A130, H⟩ := H; (try dsimp only at H); have A13 := Aside0.mk A130; clear A130; replace H := Option.bind_eq_some_iff.mp H; obtain ⟨⟨t119, t120⟩, A140, H⟩ := H; (try dsimp only at H); have A14 := Aside0.mk A140; clear A140; replace H := Option.bind_eq_some_iff.mp H; obtain ⟨⟨t121, t122⟩, A150, H⟩ := H; (try dsimp only at H); have A15 := Aside0.mk A150; clear A150
  by_cases c16 : t103.toList = t105.toList
  ·rw [if_pos c16] at H; have c16b0 : (t103.toList == t105.toList) = true := beq_iff_eq.mpr c16; have c16b1 : (t103.toList != t105.toList) = false := bne_eq_false_iff_eq.mpr c16; clear c16; replace H := Option.bind_eq_some_iff.mp H; obtain ⟨t123, A170, H⟩ := H; (try dsimp only at H); have A17 := Aside0.mk A170; clear A170
   by_cases c18 : t123 = t106
   ·rw [if_pos c18] at H; have c18b0 : (t123 == t106) = true := beq_iff_eq.mpr c18; have c18b1 : (t123 != t106) = false := bne_eq_false_iff_eq.mpr c18; clear c18
    by_cases c19 : (t107 == t111 && (t108 == t112)) = true
    ·rw [if_pos c19] at H; have c19b0 : (t107 == t111 && (t108 == t112)) = true := c19
     (try (have c19b1 : decide (t107 = t111 && (t108 == t112)) = true := by simpa using c19))
     (try (have c19b2 : (t107 == t111 && (t108 == t112)) = true := by simpa using c19))
     clear c19; replace H := Option.bind_eq_some_iff.mp H; obtain ⟨t124, A200, H⟩ := H; (try dsimp only at H); have A20 := Aside0.mk A200; clear A200
     by_cases c21 : t124 = t113
     ·rw [if_pos c21] at H; have c21b0 : (t124 == t113) = true := beq_iff_eq.mpr c21; have c21b1 : (t124 != t113) = false := bne_eq_false_iff_eq.mpr c21; clear c21
      by_cases c22 : t115.toList = t117.toList
      ·rw [if_pos c22] at H; have c22b0 : (t115.toList == t117.toList) = true := beq_iff_eq.mpr c22; have c22b1 : (t115.toList != t117.toList) = false := bne_eq_false_iff_eq.mpr c22; clear c22; replace H := Option.bind_eq_some_iff.mp H; obtain ⟨t125, A230, H⟩ := H; (try dsimp only at H); have A23 := Aside0.mk A230; clear A230
       by_cases c24 : t125 = t118
       ·rw [if_pos c24] at H; have c24b0 : (t125 == t118) = true := beq_iff_eq.mpr c24; have c24b1 : (t125 != t118) = false := bne_eq_false_iff_eq.mpr c24; clear c24
        by_cases c25 : t119 = t121
        ·rw [if_pos c25] at H; have c25b0 : (t119 == t121) = true := beq_iff_eq.mpr c25; have c25b1 : (t119 != t121) = false := bne_eq_false_iff_eq.mpr c25; clear c25; replace H := Option.bind_eq_some_iff.mp H; obtain ⟨t126, A260, H⟩ := H; (try dsimp only at H); have A26 := Aside0.mk A260; clear A260
         by_cases c27 : t126 = t122
         ·rw [if_pos c27] at H; have c27b0 : (t126 == t122) = true := beq_iff_eq.mpr c27; have c27b1 : (t126 != t122) = false := bne_eq_false_iff_eq.mpr c27; clear c27; replace H := Option.bind_eq_some_iff.mp H; obtain ⟨t127, A280, H⟩ := H; (try dsimp only at H); have A28 := Aside0.mk A280; clear A280; replace H := Option.bind_eq_some_iff.mp H; obtain ⟨t128, A290, H⟩ := H; (try dsimp only at H); have A29 := Aside0.mk A290; clear A290
          by_cases c30 : (t127.isNone == t128) = true
          ·rw [if_pos c30] at H; have c30b0 : (t127.isNone == t128) = true := c30
           (try (have c30b1 : decide (t127.isNone = t128) = true := by simpa using c30))
           (try (have c30b2 : (t127.isNone == t128) = true := by simpa using c30))
           clear c30; replace H := Option.bind_eq_some_iff.mp H; obtain ⟨t129, A310, H⟩ := H; (try dsimp only at H); have A31 := Aside0.mk A310; clear A310
           obtain rfl := Option.some.inj H
           go_enter Tryz.func12, Tryz.ntmps12
           try go_wp2_with (first | ((with_reducible refine gate_dst (N := 3) rfl ?_); refine be_ (N := 3) (cs := #[.int .i64 a0_0, .int .i64 a0_1]) (t := 140) ?_; intro gb101 hg w32 hbox hb; have BK101 := Aside0.mk hbox; have GW101 := Aside0.mk (sz_ hg : w.heap.size ≤ gb101); have GE101 := GW101; replace HB := bs_ hb; clear hb hbox hg; have hcz33_0 : w32.cell? ⟨gb101, 0, none⟩ = some (.int .i64 a0_0) := (blk_cell BK101.out 0).trans rfl; have hcz33_1 : w32.cell? ⟨gb101, 1, none⟩ = some (.int .i64 a0_1) := (blk_cell BK101.out 1).trans rfl; have hfz33_0 := blk_frozen BK101.out 0; have hfz33_1 := blk_frozen BK101.out 1) | ((with_reducible refine gate_callee (f := 80) rfl ?_); refine gd_ (some 29) Tryz.func80 (told_Text.calls k a0_0 a0_1 t103 t104 _ lb_ A8.out) ?_; intro w34 hb; replace BK101 := bb_ BK101.out hb; replace HB := bs_ hb; (try clear hb); (try simp only [errW_none, errW_some]); have hcz35_0 : w34.cell? ⟨gb101, 0, none⟩ = some (.int .i64 a0_0) := (blk_cell BK101.out 0).trans rfl; have hcz35_1 : w34.cell? ⟨gb101, 1, none⟩ = some (.int .i64 a0_1) := (blk_cell BK101.out 1).trans rfl; have hfz35_0 := blk_frozen BK101.out 0; have hfz35_1 := blk_frozen BK101.out 1) | ((with_reducible refine gate_callee (f := 81) rfl ?_); refine gd_ (some 34) Tryz.func81 (fuseeref43_Text.calls k a0_0 a0_1 t105 t106 _ A9.out) ?_; intro w36 hb; replace BK101 := bb_ BK101.out hb; replace HB := bs_ hb; (try clear hb)) | ((with_reducible refine gate_callee (f := 82) rfl ?_); refine gd_ (some 39) Tryz.func82 (told_Parse.calls k a2 t107 t108 t109 _ lb_ A10.out) ?_; intro w37 hb; replace BK101 := bb_ BK101.out hb; replace HB := bs_ hb; (try clear hb); (try simp only [errW_none, errW_some])) | ((with_reducible refine gate_dst (N := 11) rfl ?_); refine be_ (N := 11) (cs := #[.int .i64 0, .int .i64 0]) (t := 142) ?_; intro gb110 hg w38 hbox hb; have BK110 := Aside0.mk hbox; have GW110 := Aside0.mk (sz_ hg : w.heap.size ≤ gb110); have GE110 := GW110; have NB101_110 := Aside0.mk ((by rw [hg]; exact Nat.ne_of_lt (blk_lt (g := gb101) (o := .cells #[.int .i64 a0_0, .int .i64 a0_1] 140 (0, 0)) bk_) : gb101 ≠ gb110)); have NB110_101 := Aside0.mk ((by rw [hg]; exact Nat.ne_of_gt (blk_lt (g := gb101) (o := .cells #[.int .i64 a0_0, .int .i64 a0_1] 140 (0, 0)) bk_) : gb110 ≠ gb101)); replace BK101 := bb_ BK101.out hb; replace HB := bs_ hb; clear hb hbox hg; have hnb39 := NB110_101.out; have hnc39 := NB101_110.out; have hcz40_0 : w38.cell? ⟨gb110, 0, none⟩ = some (.int .i64 0) := (blk_cell BK110.out 0).trans rfl; have hcz40_1 : w38.cell? ⟨gb110, 1, none⟩ = some (.int .i64 0) := (blk_cell BK110.out 1).trans rfl; have hfz40_0 := blk_frozen BK110.out 0; have hfz40_1 := blk_frozen BK110.out 1) | ((with_reducible refine gate_callee (f := 83) rfl ?_); refine gd_ (some 44) Tryz.func83 (fuseeref43_Parse.calls k a2 t111 t112 t113 _ A11.out) ?_; intro w41 hb; replace BK101 := Aside0.mk (blk_below (g := gb101) (o := .cells #[.int .i64 a0_0, .int .i64 a0_1] 140 (0, 0)) (by (with_reducible repeat first | apply blk_drewN | apply blk_drew | apply blk_alloc); refine blk_far ?_ NB101_110.out _; (with_reducible repeat first | apply blk_drewN | apply blk_drew | apply blk_alloc); refine blk_far ?_ NB101_110.out _; (with_reducible repeat first | apply blk_drewN | apply blk_drew | apply blk_alloc); exact BK101.out) hb); replace BK110 := Aside0.mk (blk_below (g := gb110) (o := .cells #[.int .i64 t107, .int .i64 t108] 142 (0, 0)) (by (with_reducible repeat first | apply blk_drewN | apply blk_drew | apply blk_alloc); refine blk_put (cs := #[.int .i64 t107, .int .i64 0]) ?_ 1 _ rfl; (with_reducible repeat first | apply blk_drewN | apply blk_drew | apply blk_alloc); refine blk_put (cs := #[.int .i64 0, .int .i64 0]) ?_ 0 _ rfl; (with_reducible repeat first | apply blk_drewN | apply blk_drew | apply blk_alloc); exact BK110.out) hb); replace HB := bs_ hb; (try clear hb)) | ((with_reducible refine gate_dst (N := 13) rfl ?_); refine be_ (N := 13) (cs := #[.int .i64 0, .int .i64 0]) (t := 140) ?_; intro gb114 hg w42 hbox hb; have BK114 := Aside0.mk hbox; have GW114 := Aside0.mk (sz_ hg : w.heap.size ≤ gb114); have GE114 := GW114; have NB101_114 := Aside0.mk ((by rw [hg]; exact Nat.ne_of_lt (blk_lt (g := gb101) (o := .cells #[.int .i64 a0_0, .int .i64 a0_1] 140 (0, 0)) bk_) : gb101 ≠ gb114)); have NB114_101 := Aside0.mk ((by rw [hg]; exact Nat.ne_of_gt (blk_lt (g := gb101) (o := .cells #[.int .i64 a0_0, .int .i64 a0_1] 140 (0, 0)) bk_) : gb114 ≠ gb101)); have NB110_114 := Aside0.mk ((by rw [hg]; exact Nat.ne_of_lt (blk_lt (g := gb110) (o := .cells #[.int .i64 t107, .int .i64 t108] 142 (0, 0)) bk_) : gb110 ≠ gb114)); have NB114_110 := Aside0.mk ((by rw [hg]; exact Nat.ne_of_gt (blk_lt (g := gb110) (o := .cells #[.int .i64 t107, .int .i64 t108] 142 (0, 0)) bk_) : gb114 ≠ gb110)); replace BK101 := bb_ BK101.out hb; replace BK110 := bb_ BK110.out hb; replace HB := bs_ hb; clear hb hbox hg; have hnb43 := NB114_101.out; have hnc43 := NB101_114.out; have hnb44 := NB114_110.out; have hnc44 := NB110_114.out; have hcz45_0 : w42.cell? ⟨gb114, 0, none⟩ = some (.int .i64 0) := (blk_cell BK114.out 0).trans rfl; have hcz45_1 : w42.cell? ⟨gb114, 1, none⟩ = some (.int .i64 0) := (blk_cell BK114.out 1).trans rfl; have hfz45_0 := blk_frozen BK114.out 0; have hfz45_1 := blk_frozen BK114.out 1) | ((with_reducible refine gate_callee (f := 84) rfl ?_); refine gd_ (some 49) Tryz.func84 (told_Length.calls a1 t115 t116 _ lb_ A12.out) ?_; intro w46 hb; replace BK101 := Aside0.mk (blk_below (g := gb101) (o := .cells #[.int .i64 a0_0, .int .i64 a0_1] 140 (0, 0)) (by (with_reducible repeat first | apply blk_drewN | apply blk_drew | apply blk_alloc); refine blk_far ?_ NB101_114.out _; (with_reducible repeat first | apply blk_drewN | apply blk_drew | apply blk_alloc); refine blk_far ?_ NB101_114.out _; (with_reducible repeat first | apply blk_drewN | apply blk_drew | apply blk_alloc); exact BK101.out) hb); replace BK110 := Aside0.mk (blk_below (g := gb110) (o := .cells #[.int .i64 t107, .int .i64 t108] 142 (0, 0)) (by (with_reducible repeat first | apply blk_drewN | apply blk_drew | apply blk_alloc); refine blk_far ?_ NB110_114.out _; (with_reducible repeat first | apply blk_drewN | apply blk_drew | apply blk_alloc); refine blk_far ?_ NB110_114.out _; (with_reducible repeat first | apply blk_drewN | apply blk_drew | apply blk_alloc); exact BK110.out) hb); replace BK114 := Aside0.mk (blk_below (g := gb114) (o := .cells #[.int .i64 t111, .int .i64 t112] 140 (0, 0)) (by (with_reducible repeat first | apply blk_drewN | apply blk_drew | apply blk_alloc); refine blk_put (cs := #[.int .i64 t111, .int .i64 0]) ?_ 1 _ rfl; (with_reducible repeat first | apply blk_drewN | apply blk_drew | apply blk_alloc); refine blk_put (cs := #[.int .i64 0, .int .i64 0]) ?_ 0 _ rfl; (with_reducible repeat first | apply blk_drewN | apply blk_drew | apply blk_alloc); exact BK114.out) hb); replace HB := bs_ hb; (try clear hb); (try simp only [errW_none, errW_some])) | ((with_reducible refine gate_callee (f := 85) rfl ?_); refine gc_ (some 54) Tryz.func85 (fuseeref43_Length.calls k a1 t117 t118 _ A13.out) ?_; rintro e w' ⟨rfl, ⟨nd, rfl⟩⟩; refine ⟨_, rfl, ?_⟩) | ((with_reducible refine gate_callee (f := 86) rfl ?_); refine gd_ (some 59) Tryz.func86 (told_Long.calls k a2 t119 t120 _ lb_ A14.out) ?_; intro w47 hb; replace BK101 := bb_ BK101.out hb; replace BK110 := bb_ BK110.out hb; replace BK114 := bb_ BK114.out hb; replace HB := bs_ hb; (try simp only [errW_none, errW_some])) | ((with_reducible refine gate_callee (f := 87) rfl ?_); refine gd_ (some 64) Tryz.func87 (fuseeref43_Long.calls k a2 t121 t122 _ A15.out) ?_; intro w48 hb; replace BK101 := bb_ BK101.out hb; replace BK110 := bb_ BK110.out hb; replace BK114 := bb_ BK114.out hb; replace HB := bs_ hb; (try clear hb)))
           have n0_ := Aside0.mk (blk_drew BK101.out); have n1_ := Aside0.mk (blk_drew BK110.out); have n2_ := Aside0.mk (blk_drew BK114.out); have n3_ := Aside0.mk (below_drew1 HB.out); clear BK101; clear BK110; clear BK114; clear HB; have BK101 := n0_; have BK110 := n1_; have BK114 := n2_; have HB := n3_; clear n0_ n1_ n2_ n3_
           have CA17 := fun W HL_ => fuseelaw43_num.calls t104 t123 W HL_ A17.out
           try simp only [errW_none, errW_some] at CA17
           refine start_ (n := 54) (S := fun w' => w'.cell? ⟨gb110, 0, none⟩ = some (.int .i64 t107) ∧ w'.cell? ⟨gb110, 1, none⟩ = some (.int .i64 t108) ∧ w'.cell? ⟨gb114, 0, none⟩ = some (.int .i64 t111) ∧ w'.cell? ⟨gb114, 1, none⟩ = some (.int .i64 t112) ∧ w'.cell? ⟨gb101, 0, none⟩ = some (.int .i64 a0_0) ∧ w'.cell? ⟨gb101, 1, none⟩ = some (.int .i64 a0_1)) (ds := []) (bq 54 0) (by kernel_rfl) rfl (by kernel_rfl) ⟨(blk_cell BK110.out 0).trans rfl, (blk_cell BK110.out 1).trans rfl, (blk_cell BK114.out 0).trans rfl, (blk_cell BK114.out 1).trans rfl, (blk_cell BK101.out 0).trans rfl, (blk_cell BK101.out 1).trans rfl⟩ (fun hHeld => ?_); refine with_tabW fuseelaw43_ToldTexts.tab11 fuseelaw43_ToldTexts.bits11 (fun HT_ HW_ => ?_)
           generalize w48.drew = w49 at BK101 BK110 BK114 HB hHeld ⊢
           refine pa 0 (bq 54 1) (some 67) ?_; refine pa 1 (bq 54 2) (some 68) ?_; refine pa 2 (bq 54 3) (some 69) ?_; refine pa 3 (bq 54 4) (some 70) ?_; refine pa 4 (bq 54 5) (some 71) ?_; refine pa 6 (bs 54 95) (some 73) ?_
           refine one_ (i := 5) (N := some 72) (bq 54 7) rfl rfl (one_of HT_.out (by kernel_rfl)) (by decide) (fun K hK => ?_)
           refine goes_ Tryz.func88 (by kernel_rfl) rfl #[errW t104] (by rfl) rfl rfl ev_ ?_
           with_reducible refine (CA17 _ lb_).mono ?_
           rintro e w50 ⟨rfl, hb⟩
           refine ⟨_, rfl, ?_⟩
           have n0_ := Aside0.mk (blk_below (g := gb101) (o := .cells #[.int .i64 a0_0, .int .i64 a0_1] 140 (0, 0)) bk_ hb); have n1_ := Aside0.mk (blk_below (g := gb110) (o := .cells #[.int .i64 t107, .int .i64 t108] 142 (0, 0)) bk_ hb); have n2_ := Aside0.mk (blk_below (g := gb114) (o := .cells #[.int .i64 t111, .int .i64 t112] 140 (0, 0)) bk_ hb); have n3_ := bs_ hb; clear BK101; clear BK110; clear BK114; clear HB; have BK101 := n0_; have BK110 := n1_; have BK114 := n2_; have HB := n3_; clear n0_ n1_ n2_ n3_
           (try clear hb)
           (try clear hb2)
           (try clear hk)
           (try clear hi)
           have CA20 := fun W HL_ => fuseelaw43_num.calls t109 t124 W HL_ A20.out
           try simp only [errW_none, errW_some] at CA20
           refine hK.out _ _ ⟨(blk_cell BK110.out 0).trans rfl, (blk_cell BK110.out 1).trans rfl, (blk_cell BK114.out 0).trans rfl, (blk_cell BK114.out 1).trans rfl, (blk_cell BK101.out 0).trans rfl, (blk_cell BK101.out 1).trans rfl⟩ (fun hHeld => ?_)
           clear hK K
           refine norm_ (a' := ?_) ?_ ?_
           rotate_left
           ·show Act.put _ (some 72) _ = _
            simp only [Act.put, List.setIfInBounds_toArray, List.set_cons_zero, List.set_cons_succ, i64_w, i32_w]
            rfl
           refine pa 7 (bq 54 8) (some 74) ?_; refine pa 8 (bq 54 9) (some 75) ?_; refine pa 9 (bq 54 10) (some 76) ?_
           refine tu (N := some 77) (v := ?_) (a' := ?_) 10 (bq 54 11) hHeld rfl rfl (take_ofW HT_.out HW_.out (by kernel_rfl)) (fun _ _ _ h => h) (by rfl) ?_ ?_ ?_; rotate_left 2; (rintro w' ⟨s0, s1, s2, s3, s4, s5⟩; go_simp; with_reducible rfl); (simp only [Act.put, List.setIfInBounds_toArray, List.set_cons_zero, List.set_cons_succ, i64_w, i32_w]; rfl)
           refine tu (N := some 78) (v := ?_) (a' := ?_) 11 (bq 54 12) hHeld rfl rfl (take_ofW HT_.out HW_.out (by kernel_rfl)) (fun _ _ _ h => h) (by rfl) ?_ ?_ ?_; rotate_left 2; (rintro w' ⟨s0, s1, s2, s3, s4, s5⟩; go_simp; with_reducible rfl); (simp only [Act.put, List.setIfInBounds_toArray, List.set_cons_zero, List.set_cons_succ, i64_w, i32_w]; rfl)
           refine pa 12 (bq 54 13) (some 79) ?_; refine pa 13 (bq 54 14) (some 80) ?_; refine pa 14 (bq 54 15) (some 81) ?_; refine pa 15 (bq 54 16) (some 82) ?_; refine pa 17 (bs 54 196607) (some 84) ?_
           refine one_ (i := 16) (N := some 83) (bq 54 18) rfl rfl (one_of HT_.out (by kernel_rfl)) (by decide) (fun K hK => ?_)
           refine goes_ Tryz.func88 (by kernel_rfl) rfl #[errW t109] (by rfl) rfl rfl ev_ ?_
           with_reducible refine (CA20 _ lb_).mono ?_
           rintro e w51 ⟨rfl, hb⟩
           refine ⟨_, rfl, ?_⟩
           have n0_ := Aside0.mk (blk_below (g := gb101) (o := .cells #[.int .i64 a0_0, .int .i64 a0_1] 140 (0, 0)) bk_ hb); have n1_ := Aside0.mk (blk_below (g := gb110) (o := .cells #[.int .i64 t107, .int .i64 t108] 142 (0, 0)) bk_ hb); have n2_ := Aside0.mk (blk_below (g := gb114) (o := .cells #[.int .i64 t111, .int .i64 t112] 140 (0, 0)) bk_ hb); have n3_ := bs_ hb; clear BK101; clear BK110; clear BK114; clear HB; have BK101 := n0_; have BK110 := n1_; have BK114 := n2_; have HB := n3_; clear n0_ n1_ n2_ n3_
           (try clear hb)
           (try clear hb2)
           (try clear hk)
           (try clear hi)
           have CA23 := fun W HL_ => fuseelaw43_num.calls t116 t125 W HL_ A23.out
           try simp only [errW_none, errW_some] at CA23
           refine hK.out _ _ ⟨(blk_cell BK110.out 0).trans rfl, (blk_cell BK110.out 1).trans rfl, (blk_cell BK114.out 0).trans rfl, (blk_cell BK114.out 1).trans rfl, (blk_cell BK101.out 0).trans rfl, (blk_cell BK101.out 1).trans rfl⟩ (fun hHeld => ?_)
           clear hK K
           refine norm_ (a' := ?_) ?_ ?_
           rotate_left
           ·show Act.put _ (some 83) _ = _
            simp only [Act.put, List.setIfInBounds_toArray, List.set_cons_zero, List.set_cons_succ, i64_w, i32_w]
            rfl
           refine pa 18 (bq 54 19) (some 85) ?_; refine pa 19 (bq 54 20) (some 86) ?_; refine pa 20 (bq 54 21) (some 87) ?_; refine pa 21 (bq 54 22) (some 88) ?_; refine pa 22 (bq 54 23) (some 89) ?_; refine pa 23 (bq 54 24) (some 90) ?_; refine pa 24 (bq 54 25) (some 91) ?_; refine pa 25 (bq 54 26) (some 92) ?_; refine pa 26 (bq 54 27) (some 93) ?_; refine pa 28 (bs 54 402653183) (some 95) ?_
           refine one_ (i := 27) (N := some 94) (bq 54 29) rfl rfl (one_of HT_.out (by kernel_rfl)) (by decide) (fun K hK => ?_)
           refine goes_ Tryz.func88 (by kernel_rfl) rfl #[errW t116] (by rfl) rfl rfl ev_ ?_
           with_reducible refine (CA23 _ lb_).mono ?_
           rintro e w52 ⟨rfl, hb⟩
           refine ⟨_, rfl, ?_⟩
           have n0_ := Aside0.mk (blk_below (g := gb101) (o := .cells #[.int .i64 a0_0, .int .i64 a0_1] 140 (0, 0)) bk_ hb); have n1_ := Aside0.mk (blk_below (g := gb110) (o := .cells #[.int .i64 t107, .int .i64 t108] 142 (0, 0)) bk_ hb); have n2_ := Aside0.mk (blk_below (g := gb114) (o := .cells #[.int .i64 t111, .int .i64 t112] 140 (0, 0)) bk_ hb); have n3_ := bs_ hb; clear BK101; clear BK110; clear BK114; clear HB; have BK101 := n0_; have BK110 := n1_; have BK114 := n2_; have HB := n3_; clear n0_ n1_ n2_ n3_
           (try clear hb)
           (try clear hb2)
           (try clear hk)
           (try clear hi)
           have CA26 := fun W HL_ => fuseelaw43_num.calls t120 t126 W HL_ A26.out
           try simp only [errW_none, errW_some] at CA26
           refine hK.out _ _ ⟨(blk_cell BK110.out 0).trans rfl, (blk_cell BK110.out 1).trans rfl, (blk_cell BK114.out 0).trans rfl, (blk_cell BK114.out 1).trans rfl, (blk_cell BK101.out 0).trans rfl, (blk_cell BK101.out 1).trans rfl⟩ (fun hHeld => ?_)
           clear hK K
           refine norm_ (a' := ?_) ?_ ?_
           rotate_left
           ·show Act.put _ (some 94) _ = _
            simp only [Act.put, List.setIfInBounds_toArray, List.set_cons_zero, List.set_cons_succ, i64_w, i32_w]
            rfl
           refine pa 29 (bq 54 30) (some 96) ?_; refine pa 30 (bq 54 31) (some 97) ?_; refine pa 31 (bq 54 32) (some 98) ?_; refine pa 32 (bq 54 33) (some 99) ?_; refine pa 33 (bq 54 34) (some 100) ?_; refine pa 34 (bq 54 35) (some 101) ?_; refine pa 35 (bq 54 36) (some 102) ?_; refine pa 36 (bq 54 37) (some 103) ?_; refine pa 37 (bq 54 38) (some 104) ?_; refine pa 39 (bs 54 824633720831) (some 106) ?_
           refine one_ (i := 38) (N := some 105) (bq 54 40) rfl rfl (one_of HT_.out (by kernel_rfl)) (by decide) (fun K hK => ?_)
           refine goes_ Tryz.func88 (by kernel_rfl) rfl #[errW t120] (by rfl) rfl rfl ev_ ?_
           with_reducible refine (CA26 _ lb_).mono ?_
           rintro e w53 ⟨rfl, hb⟩
           refine ⟨_, rfl, ?_⟩
           have n0_ := Aside0.mk (blk_below (g := gb101) (o := .cells #[.int .i64 a0_0, .int .i64 a0_1] 140 (0, 0)) bk_ hb); have n1_ := Aside0.mk (blk_below (g := gb110) (o := .cells #[.int .i64 t107, .int .i64 t108] 142 (0, 0)) bk_ hb); have n2_ := Aside0.mk (blk_below (g := gb114) (o := .cells #[.int .i64 t111, .int .i64 t112] 140 (0, 0)) bk_ hb); have n3_ := bs_ hb; clear BK101; clear BK110; clear BK114; clear HB; have BK101 := n0_; have BK110 := n1_; have BK114 := n2_; have HB := n3_; clear n0_ n1_ n2_ n3_
           (try clear hb)
           (try clear hb2)
           (try clear hk)
           (try clear hi)
           refine hK.out _ _ ⟨(blk_cell BK110.out 0).trans rfl, (blk_cell BK110.out 1).trans rfl, (blk_cell BK114.out 0).trans rfl, (blk_cell BK114.out 1).trans rfl, (blk_cell BK101.out 0).trans rfl, (blk_cell BK101.out 1).trans rfl⟩ (fun hHeld => ?_)
           clear hK K
           refine norm_ (a' := ?_) ?_ ?_
           rotate_left
           ·show Act.put _ (some 105) _ = _
            simp only [Act.put, List.setIfInBounds_toArray, List.set_cons_zero, List.set_cons_succ, i64_w, i32_w]
            rfl
           refine pa 40 (bq 54 41) (some 107) ?_; refine pa 41 (bq 54 42) (some 108) ?_; refine pa 42 (bq 54 43) (some 109) ?_
           refine tu (N := some 110) (v := ?_) (a' := ?_) 43 (bq 54 44) hHeld rfl rfl (take_ofW HT_.out HW_.out (by kernel_rfl)) (fun _ _ _ h => h) (by rfl) ?_ ?_ ?_; rotate_left 2; (rintro w' ⟨s0, s1, s2, s3, s4, s5⟩; go_simp; with_reducible rfl); (simp only [Act.put, List.setIfInBounds_toArray, List.set_cons_zero, List.set_cons_succ, i64_w, i32_w]; rfl)
           refine tu (N := some 113) (v := ?_) (a' := ?_) 46 (bs 54 87960930222079) hHeld rfl rfl (take_ofW HT_.out HW_.out (by kernel_rfl)) (fun _ _ _ h => h) (by rfl) ?_ ?_ ?_; rotate_left 2; (rintro w' ⟨s0, s1, s2, s3, s4, s5⟩; go_simp; with_reducible rfl); (simp only [Act.put, List.setIfInBounds_toArray, List.set_cons_zero, List.set_cons_succ, i64_w, i32_w]; rfl)
           refine one_ (i := 44) (N := some 111) (bs 54 105553116266495) rfl rfl (one_of HT_.out (by kernel_rfl)) (by decide) (fun K hK => ?_)
           refine goes_ Tryz.func89 (by kernel_rfl) rfl #[.agg #[.int .i64 a0_0, .int .i64 a0_1]] (by rfl) rfl rfl ev_ ?_
           with_reducible refine (told_Check.calls a0_0 a0_1 t127 _ A28.out).mono ?_
           rintro e w54 ⟨rfl, hb⟩
           refine ⟨_, rfl, ?_⟩
           have n0_ := Aside0.mk (blk_below (g := gb101) (o := .cells #[.int .i64 a0_0, .int .i64 a0_1] 140 (0, 0)) bk_ hb); have n1_ := Aside0.mk (blk_below (g := gb110) (o := .cells #[.int .i64 t107, .int .i64 t108] 142 (0, 0)) bk_ hb); have n2_ := Aside0.mk (blk_below (g := gb114) (o := .cells #[.int .i64 t111, .int .i64 t112] 140 (0, 0)) bk_ hb); have n3_ := bs_ hb; clear BK101; clear BK110; clear BK114; clear HB; have BK101 := n0_; have BK110 := n1_; have BK114 := n2_; have HB := n3_; clear n0_ n1_ n2_ n3_
           (try clear hb)
           (try clear hb2)
           (try clear hk)
           (try clear hi)
           (try simp only [errW_none, errW_some])
           refine hK.out _ _ ⟨(blk_cell BK110.out 0).trans rfl, (blk_cell BK110.out 1).trans rfl, (blk_cell BK114.out 0).trans rfl, (blk_cell BK114.out 1).trans rfl, (blk_cell BK101.out 0).trans rfl, (blk_cell BK101.out 1).trans rfl⟩ (fun hHeld => ?_)
           clear hK K
           refine norm_ (a' := ?_) ?_ ?_
           rotate_left
           ·show Act.put _ (some 111) _ = _
            simp only [Act.put, List.setIfInBounds_toArray, List.set_cons_zero, List.set_cons_succ, i64_w, i32_w]
            rfl
           refine pa 45 (bq 54 47) (some 112) ?_
           refine one_ (i := 47) (N := some 114) (bq 54 48) rfl rfl (one_of HT_.out (by kernel_rfl)) (by decide) (fun K hK => ?_)
           refine goes_ Tryz.func90 (by kernel_rfl) rfl #[.agg #[.int .i64 a0_0, .int .i64 a0_1]] (by rfl) rfl rfl ev_ ?_
           with_reducible refine (fuseeref43_May.calls a0_0 a0_1 t128 _ A29.out).mono ?_
           rintro e w55 ⟨rfl, hb⟩
           refine ⟨_, rfl, ?_⟩
           have n0_ := Aside0.mk (blk_below (g := gb101) (o := .cells #[.int .i64 a0_0, .int .i64 a0_1] 140 (0, 0)) bk_ hb); have n1_ := Aside0.mk (blk_below (g := gb110) (o := .cells #[.int .i64 t107, .int .i64 t108] 142 (0, 0)) bk_ hb); have n2_ := Aside0.mk (blk_below (g := gb114) (o := .cells #[.int .i64 t111, .int .i64 t112] 140 (0, 0)) bk_ hb); have n3_ := bs_ hb; clear BK101; clear BK110; clear BK114; clear HB; have BK101 := n0_; have BK110 := n1_; have BK114 := n2_; have HB := n3_; clear n0_ n1_ n2_ n3_
           (try clear hb)
           (try clear hb2)
           (try clear hk)
           (try clear hi)
           refine hK.out _ _ ⟨(blk_cell BK110.out 0).trans rfl, (blk_cell BK110.out 1).trans rfl, (blk_cell BK114.out 0).trans rfl, (blk_cell BK114.out 1).trans rfl, (blk_cell BK101.out 0).trans rfl, (blk_cell BK101.out 1).trans rfl⟩ (fun hHeld => ?_)
           clear hK K
           refine norm_ (a' := ?_) ?_ ?_
           rotate_left
           ·show Act.put _ (some 114) _ = _
            simp only [Act.put, List.setIfInBounds_toArray, List.set_cons_zero, List.set_cons_succ, i64_w, i32_w]
            rfl
           refine pa 48 (bq 54 49) (some 115) ?_; refine pa 49 (bq 54 50) (some 116) ?_; refine pa 50 (bq 54 51) (some 117) ?_
           refine one_ (i := 51) (N := some 118) (bq 54 52) rfl rfl (one_of HT_.out (by kernel_rfl)) (by decide) (fun K hK => ?_)
           refine goes_ Tryz.func79 (by kernel_rfl) rfl #[] (by rfl) rfl rfl ev_ ?_
           with_reducible refine (fuseelaw43_sure.calls k  t129 _ lb_ A31.out).mono ?_
           rintro e w56 ⟨rfl, hb⟩
           refine ⟨_, rfl, ?_⟩
           have n0_ := Aside0.mk (blk_below (g := gb101) (o := .cells #[.int .i64 a0_0, .int .i64 a0_1] 140 (0, 0)) bk_ hb); have n1_ := Aside0.mk (blk_below (g := gb110) (o := .cells #[.int .i64 t107, .int .i64 t108] 142 (0, 0)) bk_ hb); have n2_ := Aside0.mk (blk_below (g := gb114) (o := .cells #[.int .i64 t111, .int .i64 t112] 140 (0, 0)) bk_ hb); have n3_ := bs_ hb; clear BK101; clear BK110; clear BK114; clear HB; have BK101 := n0_; have BK110 := n1_; have BK114 := n2_; have HB := n3_; clear n0_ n1_ n2_ n3_
           (try clear hb)
           (try clear hb2)
           (try clear hk)
           (try clear hi)
           refine hK.out _ _ ⟨(blk_cell BK110.out 0).trans rfl, (blk_cell BK110.out 1).trans rfl, (blk_cell BK114.out 0).trans rfl, (blk_cell BK114.out 1).trans rfl, (blk_cell BK101.out 0).trans rfl, (blk_cell BK101.out 1).trans rfl⟩ (fun hHeld => ?_)
           clear hK K
           refine norm_ (a' := ?_) ?_ ?_
           rotate_left
           ·show Act.put _ (some 118) _ = _
            simp only [Act.put, List.setIfInBounds_toArray, List.set_cons_zero, List.set_cons_succ, i64_w, i32_w]
            rfl
           refine pa 52 (bq 54 53) (some 119) ?_; refine pa 53 (bq 54 54) (some 6) ?_
           refine done_ (done_of HT_.out (by kernel_rfl)) ?_
           try go_wp2
           go_ret
           exact en_
          ·rw [if_neg c30] at H
           have c30b0 : (t127.isNone == t128) = false := by simpa using c30
           (try (have c30b1 : decide (t127.isNone = t128) = false := by simpa using c30))
           (try (have c30b2 : (t127.isNone == t128) = false := by simpa using c30))
           (try (have c30b3 : ¬ (t127.isNone = t128) := by simpa using c30))
           clear c30; exact absurd H (by simp)
         ·rw [if_neg c27] at H; have c27b0 : (t126 == t122) = false := beq_eq_false_iff_ne.mpr c27; have c27b1 : (t126 != t122) = true := bne_iff_ne.mpr c27; exact absurd H (by simp)
        ·rw [if_neg c25] at H; have c25b0 : (t119 == t121) = false := beq_eq_false_iff_ne.mpr c25; have c25b1 : (t119 != t121) = true := bne_iff_ne.mpr c25; exact absurd H (by simp)
       ·rw [if_neg c24] at H; have c24b0 : (t125 == t118) = false := beq_eq_false_iff_ne.mpr c24; have c24b1 : (t125 != t118) = true := bne_iff_ne.mpr c24; exact absurd H (by simp)
      ·rw [if_neg c22] at H; have c22b0 : (t115.toList == t117.toList) = false := beq_eq_false_iff_ne.mpr c22; have c22b1 : (t115.toList != t117.toList) = true := bne_iff_ne.mpr c22; exact absurd H (by simp)
     ·rw [if_neg c21] at H; have c21b0 : (t124 == t113) = false := beq_eq_false_iff_ne.mpr c21; have c21b1 : (t124 != t113) = true := bne_iff_ne.mpr c21; exact absurd H (by simp)
    ·rw [if_neg c19] at H
     have c19b0 : (t107 == t111 && (t108 == t112)) = false := by simpa using c19
     (try (have c19b1 : decide (t107 = t111 && (t108 == t112)) = false := by simpa using c19))
     (try (have c19b2 : (t107 == t111 && (t108 == t112)) = false := by simpa using c19))
     (try (have c19b3 : ¬ (t107 = t111 && (t108 == t112)) := by simpa using c19))
     clear c19; exact absurd H (by simp)
   ·rw [if_neg c18] at H; have c18b0 : (t123 == t106) = false := beq_eq_false_iff_ne.mpr c18; have c18b1 : (t123 != t106) = true := bne_iff_ne.mpr c18; exact absurd H (by simp)
  ·rw [if_neg c16] at H; have c16b0 : (t103.toList == t105.toList) = false := beq_eq_false_iff_ne.mpr c16; have c16b1 : (t103.toList != t105.toList) = true := bne_iff_ne.mpr c16; exact absurd H (by simp)
end Go.Proofs.YtfjifhkgifefeaaGreatDoor.PV
end

section
/- The pure law of ToldTexts: program and document answer alike. -/
namespace Go.Proofs.YtfjifhkgifefeaaGreatDoor.Pure
open Go.RowKit Go.Proofs.YtfjifhkgifefeaaGreatDoor.PA Go.Proofs.YtfjifhkgifefeaaGreatDoor.PT Go.Proofs.YtfjifhkgifefeaaGreatDoor.PU Go.Proofs.YtfjifhkgifefeaaGreatDoor.PV Go.Proofs.YtfjifhkgifefeaaGreatDoor.CivM Go.Proofs.YtfjifhkgifefeaaGreatDoor.CivP Go.Proofs.YtfjifhkgifefeaaGreatDoor.StrM Go.Proofs.YtfjifhkgifefeaaGreatDoor.Giv Go.Proofs.YtfjifhkgifefeaaGreatDoorW.PrintWords
theorem tt_text (k : Nat) (hk : 20010 ≤ k) (a b : Int) (a0 : -9223372036854775808 ≤ a) (a1 : a ≤ 9223372036854775807) (b0 : -9223372036854775808 ≤ b) (b1 : b ≤ 9223372036854775807) :
    ∃ t e, told_Text.f k a b = some (t, e) ∧ fuseeref43_Text.f k a b = some (t, e.getD 0) := by
  by_cases c : may43 a b
  · obtain ⟨y, m, d, v, hn, e⟩ := ttext_ok k (by omega) a b c
    exact ⟨_, none, e, rdtext_ok k hk a b c y m d v hn⟩
  · exact ⟨_, some 1, ttext_no k a b a0 a1 b0 b1 c, rdtext_no k a b c⟩
theorem tt_parse (k : Nat) (hk : 20010 ≤ k) (l : List UInt8) (hl : l.length ≤ 100) :
    ∃ n off e, told_Parse.f k ⟨l.toArray⟩ = some (n, off, e) ∧ fuseeref43_Parse.f k ⟨l.toArray⟩ = some (n, off, e.getD 0) := by
  by_cases c : ∃ n off, IsMom l n off
  · obtain ⟨n, off, h⟩ := c
    exact ⟨n, off, none, tparse_ok k (by omega) l n off h, rparse43_ok k hk l n off h⟩
  · have h : ∀ n off, ¬ IsMom l n off := fun n off x => c ⟨n, off, x⟩
    exact ⟨0, 0, some 3, tparse_no k (by omega) l hl h, rparse43_no k hk l h⟩
theorem tt_length (k : Nat) (hk : 30 ≤ k) (n : Int) (h1 : n ≤ 9223372036854775807) :
    ∃ t e, told_Length.f n = some (t, e) ∧ fuseeref43_Length.f k n = some (t, e.getD 0) := by
  by_cases c : n < 0
  · exact ⟨_, some 1, tLength_neg n c, rLength_neg k n c⟩
  · exact ⟨_, none, tLength n (by omega) h1, rLength k n hk (by omega) h1⟩
theorem tt_long (k : Nat) (hk : 130 ≤ k) (l : List UInt8) (hl : l.length ≤ 100) :
    ∃ n e, told_Long.f k ⟨l.toArray⟩ = some (n, e) ∧ fuseeref43_Long.f k ⟨l.toArray⟩ = some (n, e.getD 0) := by
  by_cases c : ∃ n, IsLen l n
  · obtain ⟨n, h⟩ := c
    exact ⟨n, none, tlong_ok k (by omega) l n h, rlong_ok k hk l n h⟩
  · have h : ∀ n, ¬ IsLen l n := fun n x => c ⟨n, x⟩
    exact ⟨0, some 3, tlong_no k (by omega) l hl h, rlong_no k hk l hl h⟩
theorem ToldTexts (a b n : Int) (s : ByteArray) (a0 : -9223372036854775808 ≤ a) (a1 : a ≤ 9223372036854775807) (b0 : -9223372036854775808 ≤ b) (b1 : b ≤ 9223372036854775807) (n0 : -9223372036854775808 ≤ n) (n1 : n ≤ 9223372036854775807) :
    ∃ k, fuseelaw43_ToldTexts.f k a b n s = some true := by
  refine ⟨20010, ?_⟩
  unfold fuseelaw43_ToldTexts.f
  rw [sure43 20010 (by omega)]
  by_cases c : (s.size : Int) > 100
  · rw [if_pos c]; rfl
  rw [if_neg c]; obtain ⟨⟨l⟩⟩ := s
  have hl : l.length ≤ 100 := by
    have e : ((⟨⟨l⟩⟩ : ByteArray).size) = l.length := rfl; rw [e] at c; omega
  obtain ⟨t1, e1, p1, q1⟩ := tt_text 20010 (by omega) a b a0 a1 b0 b1; obtain ⟨m2, o2, e2, p2, q2⟩ := tt_parse 20010 (by omega) l hl; obtain ⟨t3, e3, p3, q3⟩ := tt_length 20010 (by omega) n n1; obtain ⟨m4, e4, p4, q4⟩ := tt_long 20010 (by omega) l hl; rw [p1, q1]; simp only [Option.bind_some]; rw [show told_Parse.f 20010 ⟨⟨l⟩⟩ = _ from p2, show fuseeref43_Parse.f 20010 ⟨⟨l⟩⟩ = _ from q2]; simp only [Option.bind_some]; rw [p3, q3]; simp only [Option.bind_some]; rw [show told_Long.f 20010 ⟨⟨l⟩⟩ = _ from p4, show fuseeref43_Long.f 20010 ⟨⟨l⟩⟩ = _ from q4]; simp only [Option.bind_some, if_true, fuseelaw43_num.f, beq_self_eq_true, Bool.and_self]; rw [tdcheck a b a0 a1 b0 b1, rdmay]; simp only [Option.bind_some]; rw [if_pos]
  by_cases d : may43 a b
  · rw [if_pos d, decide_eq_true d]; rfl
  · rw [if_neg d, decide_eq_false d]; rfl
end Go.Proofs.YtfjifhkgifefeaaGreatDoor.Pure
end

section
/- From the rows' condition 'laid' to the walks' hypothesis; and a world that meets the condition (what the program's door lays, and the pinned table). -/
namespace Go.Proofs.YtfjifhkgifefeaaGreatDoor.LaidP
open Go.RowKit Go.Proofs.YtfjifhkgifefeaaGreatDoor Go.Proofs.YtfjifhkgifefeaaGreatDoor.Giv
abbrev laidL : List (String × DataW Unit) := [("math/bits.deBruijn32tab", Rows.laid_math_bits_deBruijn32tab), ("math/bits.deBruijn64tab", Rows.laid_math_bits_deBruijn64tab), ("internal/strconv.uint64pow10", Rows.laid_internal_strconv_uint64pow10), ("unicode/utf8.acceptRanges", Rows.laid_unicode_utf8_acceptRanges), ("errors.errorType", Rows.laid_errors_errorType), ("strconv.ErrRange", Rows.laid_strconv_ErrRange), ("strconv.ErrSyntax", Rows.laid_strconv_ErrSyntax), ("unicode/utf8.first", Rows.laid_unicode_utf8_first)]
abbrev laidD : List (String × DataW Unit) := [("math/bits.deBruijn32tab", Rows.laid_math_bits_deBruijn32tab), ("math/bits.deBruijn64tab", Rows.laid_math_bits_deBruijn64tab), ("internal/strconv.uint64pow10", Rows.laid_internal_strconv_uint64pow10), ("unicode/utf8.acceptRanges", Rows.laid_unicode_utf8_acceptRanges), ("strconv.ErrRange", Rows.laid_strconv_ErrRange), ("strconv.ErrSyntax", Rows.laid_strconv_ErrSyntax), ("unicode/utf8.first", Rows.laid_unicode_utf8_first)]
theorem own : ownKnob Tryz.prog.godebug = none := by kernel_rfl
theorem gTy : Tryz.prog.globalNamed "errors.errorType" = some 0 := by kernel_rfl
theorem gSyn : Tryz.prog.globalNamed "strconv.ErrSyntax" = some 1 := by kernel_rfl
theorem gRng : Tryz.prog.globalNamed "strconv.ErrRange" = some 2 := by kernel_rfl
theorem tSyn : (Tryz.prog.globals[1]?).map (·.type) = some 28 := by kernel_rfl
theorem tRng : (Tryz.prog.globals[2]?).map (·.type) = some 28 := by kernel_rfl
theorem tPow : (Tryz.prog.globals[4]?).map (·.type) = some 303 := by kernel_rfl
theorem rt : (Tryz.prog.cutTypes.find? (·.1 == "internal/reflectlite.rtype")).map (·.2) = some 260 := by kernel_rfl
theorem oneRow : ((List.range 344).filter fun t => Tryz.prog.rowNamed t [101, 114, 114, 111, 114]) = [28] := by kernel_rfl
theorem size : Tryz.prog.types.size = 344 := by kernel_rfl
theorem cellsU : Tryz.prog.cellsOf 282 = 1 := by kernel_rfl
theorem cellsP : Tryz.prog.cellsOf 303 = 20 := by kernel_rfl
theorem cellsE : Tryz.prog.cellsOf 309 = 1 := by kernel_rfl
theorem cellsS : Tryz.prog.cellsOf 9 = 1 := by kernel_rfl
theorem star : "*" ++ "errors.errorString" = "*errors.errorString" := by decide
theorem rowErr (u : TypeId) (h : Tryz.prog.typeName? 3 u = some "*errors.errorString") : u = 307 :=
  typeName_ptr_named (nm := "errors.errorString") (by rw [star]; kernel_rfl) (by kernel_rfl) (by decide) u (by rw [star]; exact h)
theorem low_gt : Nat.ble (9 + 1) Tryz.prog.low = true := by kernel_rfl
theorem glob : Tryz.prog.globals.size = 9 := by kernel_rfl
theorem of_laid {W : World} (h : laidMetH Tryz.prog laidL W) (hs : W.ShapedOpen Tryz.prog) : Laid W := by
  obtain ⟨hm0, hh⟩ := h; have hm : laidMet Tryz.prog laidD W := hm0
  have ht : Lib.TabIs Tryz.prog W "internal/strconv.uint64pow10" .u64 Lib.pow10Tab :=
    Lib.tabIs_of_head (zs := Lib.pow10Tab) gPow tPow Tryz.underlying303 Tryz.underlying282 cellsU cellsP (rest := laidD.tail.tail.tail) hm.tail.tail
  have hlow : Tryz.prog.low ≤ W.heap.size := by
    have h1 := Nat.le_of_ble_eq_true low_gt; obtain ⟨o, o0, e, _, _⟩ := hs.2 (Tryz.prog.low - 1) (by rw [glob]; omega) (show Tryz.prog.low - 1 < Tryz.prog.low by omega); have := (Array.getElem?_eq_some_iff.1 e).1
    omega
  have h1 := Nat.le_of_ble_eq_true low_gt; have hE := hm.tail.tail.tail.tail; obtain ⟨a0, s0, hv0, -, -, -⟩ := laid_sentinel hE gRng tRng Tryz.underlying28 rowErr Tryz.underlying307 Tryz.underlying309 rfl rfl Tryz.underlying9 cellsE cellsS; obtain ⟨a1, s1, hv1, -, -, -⟩ := laid_sentinel hE.tail gSyn tSyn Tryz.underlying28 rowErr Tryz.underlying307 Tryz.underlying309 rfl rfl Tryz.underlying9 cellsE cellsS
  refine ⟨hs, ht, ⟨_, _, by simpa using World.var?_cell gSyn hv1 0⟩, ⟨_, _, by simpa using World.var?_cell gRng hv0 0⟩, ?_, hlow, by omega⟩
  obtain ⟨name, u, ty, e1, e2, e3, e4, e5⟩ := hh _ (List.mem_cons_self ..); have en : name = [101, 114, 114, 111, 114] := (Option.some.inj e1).symm; subst en
  obtain rfl := Option.some.inj (rt.symm.trans e2)
  have hmm : ty ∈ (List.range 344).filter fun t => Tryz.prog.rowNamed t [101, 114, 114, 111, 114] := List.mem_filter.2 ⟨List.mem_range.2 (by rw [← size]; exact e3), e4⟩
  rw [oneRow] at hmm
  obtain rfl := List.mem_singleton.1 hmm
  have hh2 : typeHandle Tryz.prog 28 = .pointer (some ⟨9, 28, none⟩) := by kernel_rfl
  rw [hh2] at e5
  simpa using World.var?_cell gTy e5 0
noncomputable def laidWorld (os : Os) : World :=
  let w0 := World.doorLaid Tryz.prog 79 os
  { w0 with heap := w0.heap.modify 5 fun
      | .cells _ t frozen => .cells (Go.Pinned.utf8FirstZ.map fun z : Nat => Value.int .u8 (Int.ofNat z)).toArray t frozen
      | o => o }
theorem laid_met (os : Os) (args : Array Value) : laidMetH Tryz.prog laidL ((laidWorld os).forCall (fun _ _ => 0) ⟨#[], args, []⟩).memory :=
  laidMetH_of_parts3 (fuel := 8) (laidMet_of_run' 8 (by kernel_rfl) (by kernel_rfl)) (by kernel_rfl) (by kernel_rfl)
end Go.Proofs.YtfjifhkgifefeaaGreatDoor.LaidP
end

section
/- Arrays of two and three whole numbers as arguments: opened and shut. -/
namespace Go.Proofs.YtfjifhkgifefeaaGreatDoor.ArrJ
open Go.ChangeShapes Go.WideShapes Go.WideMaps
variable {H : Type} {enc : TypeId × Value → H} {P : Program} {k e : TypeId} {q : IntKind} {W : World} {base : Nat} {sp : Nat → Bool} {held : Bool}
theorem okWide_trip (A : ArrKey P k e 3) {r : Reach} {b0 : Nat} {v : Value} (h : Value.okWide P W r b0 k v) : ∃ c0 c1 c2, v = .agg #[c0, c1, c2] := by
  simp only [Value.okWide, A.hu] at h; obtain ⟨cs, h1, h2, _⟩ := h; rw [A.size] at h2; obtain ⟨l⟩ := cs
  match l, h2 with
  | [c0, c1, c2], _ => exact ⟨c0, c1, c2, h1⟩
end Go.Proofs.YtfjifhkgifefeaaGreatDoor.ArrJ
end

