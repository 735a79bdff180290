/- Any moment as a text, that of any text, any length as a text, and that of any text, or the errors. -/
import Derived.Test.YtfjifhkgifefeaaGreatDoorZTt3
import Derived.Test.YtfjifhkgifefeaaGreatDoorProg
import Derived.Below
import Derived.Deep.Draws
import Derived.Deep.AppendLies
import Derived.Maps.AppendAt
import Derived.OwnWalk
import Derived.Laws.BytesArg
import Derived.Laws.MakeOwn
import Derived.Laws.OwnMore
import Derived.Deep.OwnRows
import Derived.Tactics
import Derived.Lib.ConvBytes
import Derived.Laws.Slices
import Derived.WalkKit
import Derived.KernelRfl
import Derived.RowKit3
import Derived.Deep.LoopGhost
import Derived.Deep.QuietTactic
import Derived.BigQuiet
import Derived.WideLaws
import Derived.Deep.DeepCutAuto
import Derived.Deep.CutBlock
import Derived.Deep.RegionHeld3
import Derived.Laws.Rows
import Derived.Lib.AppendStr
import Derived.ArgAppend
import Derived.Laws.IdiomCopy
import Derived.OrdersHeld
import Derived.Laws.BitsLemmas
import Derived.RowKit
set_option maxHeartbeats 8000000
set_option maxRecDepth 100000
set_option linter.unusedVariables false
set_option linter.unusedSimpArgs false
section
namespace Go.Proofs.YtfjifhkgifefeaaGreatDoor.PT
open Giv PA Go.RowKit YtfjifhkgifefeaaGreatDoorW.PrintWords YtfjifhkgifefeaaGreatDoorW.PrintLast YtfjifhkgifefeaaGreatDoorW.PrintMore
attribute [local go_sem] max2_int min2_int max_two min_two max_three min_three max_four min_four
set_option linter.unusedVariables false
set_option linter.unusedSimpArgs false
mutual
def told_offset.j0 : Nat → ByteArray → List ByteArray → Bool → Option (Int × Bool)
 | 0, _, _, _ => none
 | k + 1, x0, x4, x23 => if x23 = true then (some (0, false)) else (told_offset.l0 k x0 0 3600 x4 (x4.length : Int) 0)
def told_offset.l0 : Nat → ByteArray → Int → Int → List ByteArray → Int → Int → Option (Int × Bool)
 | 0, _, _, _, _, _, _ => none
 | k + 1, x0, x5, x6, x24, x25, x26 => if x26 < x25 then (if 0 ≤ x26 then (if x26 < (x24.length : Int) then ((strconv_ParseInt.f (rdOf ByteArray.empty x24 x26) 10 8).bind fun bt134 => (if bt134.2.isNone = true then (told_offset.l0 k x0 (wrap64 (x5 + (wrap64 (bt134.1 * x6)))) (wrap64 (Int.tdiv x6 60)) x24 x25 (wrap64 (x26 + 1))) else (some (0, false)))) else (none)) else (none)) else (if 0 ≤ 1 then (if 1 ≤ (x0.size : Int) then (if (x0.extract 0 1).toList = ([45] : List UInt8) then (some (wrap64 (-x5), true)) else (some (x5, true))) else (none)) else (none))
end
def told_offset.f (k : Nat) (a0 : ByteArray) : Option (Int × Bool) := if a0.toList = ([] : List UInt8) then (some (0, false)) else (if 1 ≤ (a0.size : Int) then ((strings_Split.f (a0.extract 1 a0.size) (⟨#[58]⟩ : ByteArray)).bind fun t130 => (if (t130.length : Int) < 2 then (told_offset.j0 k a0 t130 true) else (told_offset.j0 k a0 t130 (decide ((t130.length : Int) > 3))))) else (none))
theorem told_offset.calls (k : Nat) (a0 : ByteArray) (r1 : Int) (r2 : Bool) (w : World) (hl_ : Laid w) (h : told_offset.f k a0 = some (r1, r2)) :
  Calls Tryz.prog 149 #[.string a0] w fun e w' => e = .returned (.tuple #[.int .i64 r1, .bool r2]) ∧ Below w.heap.size w w' := by
 have hu28 := Tryz.underlying28; have hu157 := Tryz.underlying157; have HL := Aside0.mk hl_; clear hl_; have HB := Aside0.mk (Below.refl w.heap.size w); have H := h; clear h
 unfold told_offset.f at H
 by_cases c2 : a0.toList = ([] : List UInt8)
 ·rw [if_pos c2] at H; have c2b0 : (a0.toList == ([] : List UInt8)) = true := beq_iff_eq.mpr c2; have c2b1 : (a0.toList != ([] : List UInt8)) = false := bne_eq_false_iff_eq.mpr c2; clear c2; simp only [Option.some.injEq, Prod.mk.injEq] at H; obtain ⟨rfl, rfl⟩ := H
  go_enter Tryz.func149, Tryz.ntmps149
  go_wp2
  go_ret2
  exact en_
 ·rw [if_neg c2] at H; have c2b0 : (a0.toList == ([] : List UInt8)) = false := beq_eq_false_iff_ne.mpr c2; have c2b1 : (a0.toList != ([] : List UInt8)) = true := bne_iff_ne.mpr c2
  by_cases c3 : 1 ≤ (a0.size : Int)
  ·rw [if_pos c3] at H; have c3b0 := eq_true c3; have c3b1 : decide (1 ≤ (a0.size : Int)) = true := decide_eq_true c3; clear c3; replace H := Option.bind_eq_some_iff.mp H; obtain ⟨t130, A40, H⟩ := H; (try dsimp only at H); have A4 := Aside0.mk A40; clear A40; have HC5 := Aside0.mk H; clear H
   go_enter Tryz.func149, Tryz.ntmps149
   go_upto_region 4 with (first | ((with_reducible refine gate_callee (f := 96) rfl ?_); refine gc_ (some 15) Tryz.func96 (strings_Split.calls (a0.extract 1 a0.size) (⟨#[58]⟩ : ByteArray) t130 _ lb_ A4.out) ?_; rintro e w6 ⟨v131, rfl, ho0, hb⟩; refine ⟨_, rfl, ?_⟩; have HO132 := Aside0.mk (Kd.R_lower ho0 (below_size bl_)); replace HB := bs_ hb; (try clear hb); (try clear ho0)))
   (try simp only [Act.put, List.setIfInBounds_toArray, List.set_cons_zero, List.set_cons_succ])
   go_cut [23] (fun v23 wc => ∃ (kq : Nat) (x23_4 : Bool), v23 = .bool x23_4 ∧ Aside0 (told_offset.j0 kq a0 t130 x23_4 = some (r1, r2)) ∧ Aside0 (kq ≤ k) ∧ Aside0 (Kd.R Kd.string 9 wc w.heap.size (fun _ => True) v131 t130) ∧ Aside0 (Below w.heap.size w wc))
   case first =>
    have H := HC5.out; clear HC5
    by_cases c7 : (t130.length : Int) < 2
    ·rw [if_pos c7] at H; have c7b0 : decide ((t130.length : Int) < 2) = true := decide_eq_true c7; have c7b1 : decide (t130.length < 2) = true := decide_eq_true (by omega); clear c7
     (first | rw [c7b0] | (simp only [i64_w, i32_w]; rw [c7b0]) | skip)
     have H' := Aside0.mk H; clear H; obtain ⟨Ao8, co8, eo8⟩ := Kd.R_slice HO132.out; subst eo8
     go_wp2
     go_meet
     case rel => exact ⟨_, (true), rs_, H', ⟨by first | omega | exact Nat.le_refl _⟩, ⟨by (with_reducible repeat (first | apply Kd.R_alloc | apply Kd.R_drewN | apply Kd.R_drew)); exact HO132.out⟩, ⟨bl_⟩⟩
    ·rw [if_neg c7] at H; have c7b0 : decide ((t130.length : Int) < 2) = false := decide_eq_false c7; have c7b1 : decide (t130.length < 2) = false := decide_eq_false (by omega); clear c7
     (first | rw [c7b0] | (simp only [i64_w, i32_w]; rw [c7b0]) | skip)
     have H' := Aside0.mk H; clear H; obtain ⟨Ao9, co9, eo9⟩ := Kd.R_slice HO132.out; subst eo9
     go_wp2
     go_meet
     case rel => exact ⟨_, (decide ((t130.length : Int) > 3)), rs_, H', ⟨by first | omega | exact Nat.le_refl _⟩, ⟨by (with_reducible repeat (first | apply Kd.R_alloc | apply Kd.R_drewN | apply Kd.R_drew)); exact HO132.out⟩, ⟨bl_⟩⟩
   case rest =>
    clear HC5; (try clear c1); (try clear c2); (try clear c2b0); (try clear c2b1); (try clear p2); (try clear c3); (try clear c3b0); (try clear c3b1); (try clear c7); (try clear c7b0); (try clear c7b1); (try clear c9); obtain ⟨kq, x23_4, rfl, HA, HJ4, HO_4, HB⟩ := hcut
    cases kq with
    | zero => exact absurd HA.out (by simp [told_offset.j0])
    | succ kj4 =>
     have H := HA.out; clear HA; simp only [told_offset.j0] at H
     by_cases c10 : x23_4 = true
     ·subst c10
      have H1 : (some (0, false)) = some (r1, r2) := by rw [if_pos rfl] at H; exact H
      clear H; have H := H1; clear H1; simp only [Option.some.injEq, Prod.mk.injEq] at H; obtain ⟨rfl, rfl⟩ := H
      go_wp2
      go_ret2
      exact en_
     ·replace c10 := Bool.eq_false_iff.mpr c10; subst c10
      have H1 : (told_offset.l0 kj4 a0 0 3600 t130 (t130.length : Int) 0) = some (r1, r2) := by rw [if_neg (show ¬ (false = true) by decide)] at H; exact H
      clear H; have H := H1; clear H1; have H' := Aside0.mk H; clear H; obtain ⟨Ao11, co11, eo11⟩ := Kd.R_slice HO_4.out; subst eo11
      go_wp2
      go_loopg [5, 6, 26] kj4 (fun kq v5 v6 v26 w' => ∃ (x5_2 : Int) (x6_2 : Int) (x26_2 : Int), v5 = .int .i64 x5_2 ∧ v6 = .int .i64 x6_2 ∧ v26 = .int .i64 x26_2 ∧ Aside0 (told_offset.l0 kq a0 x5_2 x6_2 t130 (t130.length : Int) x26_2 = some (r1, r2)) ∧ Aside0 (kq ≤ kj4) ∧ Aside0 (Kd.R Kd.string 9 w' w.heap.size (fun _ => True) (.slice Ao11 t130.length co11) t130) ∧ Aside0 (Below w.heap.size w w'))
      case atStart => exact ⟨(0), (3600), (0), rs_, rs_, rs_, H', ⟨Nat.le_refl _⟩, ⟨by (with_reducible repeat (first | apply Kd.R_alloc | apply Kd.R_drewN | apply Kd.R_drew)); exact HO_4.out⟩, ⟨bl_⟩⟩
      case round =>
       clear H'; (try clear c1); (try clear c2); (try clear c2b0); (try clear c2b1); (try clear p2); (try clear c3); (try clear c3b0); (try clear c3b1); (try clear c7); (try clear c7b0); (try clear c7b1); (try clear c9); (try clear c10); (try clear p2); obtain ⟨x5_2, x6_2, x26_2, rfl, rfl, rfl, HA, HK2, HO_24, HB⟩ := hrel
       cases gk with
       | zero => exact absurd HA.out (by simp [told_offset.l0])
       | succ k2 =>
        have H := HA.out; clear HA; simp only [told_offset.l0] at H
        by_cases c12 : x26_2 < (t130.length : Int)
        ·rw [if_pos c12] at H; have c12b0 : decide (x26_2 < (t130.length : Int)) = true := decide_eq_true c12; clear c12
         by_cases c13 : 0 ≤ x26_2
         ·rw [if_pos c13] at H; have c13b0 : decide (0 ≤ x26_2) = true := decide_eq_true c13; clear c13
          by_cases c14 : x26_2 < (t130.length : Int)
          ·rw [if_pos c14] at H; have c14b0 : decide (x26_2 < (t130.length : Int)) = true := decide_eq_true c14; clear c14; replace H := Option.bind_eq_some_iff.mp H; obtain ⟨⟨t134, t135⟩, A150, H⟩ := H; (try dsimp only at H); have A15 := Aside0.mk A150; clear A150
           rcases t135 with _ | q136
           ·rw [if_pos (show (none : Option Int).isNone = true by rfl)] at H
            try dsimp only [Option.getD_some] at H
            try simp only [errW_none, errW_some]
            have H' := Aside0.mk H; clear H; have p133 : 0 ≤ (x26_2 : Int) := of_decide_eq_true as_; have q133 : x26_2 < (t130.length : Int) := of_decide_eq_true as_; obtain ⟨ad133, e133, hx133_0⟩ := Kd.at_string (Kd.R_reads' HO_24.out).2.2 x26_2 p133 q133
            cases e133
            replace p133 := eq_true p133; replace q133 := eq_true q133
            go_wp2_with (first | ((with_reducible refine gate_callee (f := 113) rfl ?_); refine gd_ (some 32) Tryz.func113 (strconv_ParseInt.calls (rdOf ByteArray.empty t130 x26_2) 10 8 t134 none _ lb_ A15.out) ?_; intro w16 hb; replace HO_24 := Aside0.mk (Kd.R_below (by (with_reducible repeat (first | apply Kd.R_alloc | apply Kd.R_drewN | apply Kd.R_drew)); exact HO_24.out) hb); replace HB := bs_ hb; (try clear hb); (try simp only [errW_none, errW_some])))
            go_roundg k2
            case measure => have := HJ4.out; have := HK2.out; omega
            case rel => exact ⟨(wrap64 (x5_2 + (wrap64 (t134 * x6_2)))), (wrap64 (Int.tdiv x6_2 60)), (wrap64 (x26_2 + 1)), rs_, rs_, rs_, H', ⟨by have := HJ4.out; have := HK2.out; omega⟩, ⟨by (with_reducible repeat (first | apply Kd.R_alloc | apply Kd.R_drewN | apply Kd.R_drew)); exact HO_24.out⟩, ⟨bl_⟩⟩
           ·rw [if_neg (show ¬ (some q136).isNone = true by simp)] at H
            try dsimp only [Option.getD_some] at H
            try simp only [errW_none, errW_some]
            simp only [Option.some.injEq, Prod.mk.injEq] at H; obtain ⟨rfl, rfl⟩ := H; have p133 : 0 ≤ (x26_2 : Int) := of_decide_eq_true as_; have q133 : x26_2 < (t130.length : Int) := of_decide_eq_true as_; obtain ⟨ad133, e133, hx133_0⟩ := Kd.at_string (Kd.R_reads' HO_24.out).2.2 x26_2 p133 q133
            cases e133
            replace p133 := eq_true p133; replace q133 := eq_true q133
            go_wp2_with (first | ((with_reducible refine gate_callee (f := 113) rfl ?_); refine gc_ (some 32) Tryz.func113 (strconv_ParseInt.calls (rdOf ByteArray.empty t130 x26_2) 10 8 t134 (some q136) _ lb_ A15.out) ?_; rintro e w17 ⟨⟨_, _, rfl⟩, hb⟩; refine ⟨_, rfl, ?_⟩; replace HO_24 := Aside0.mk (Kd.R_below (by (with_reducible repeat (first | apply Kd.R_alloc | apply Kd.R_drewN | apply Kd.R_drew)); exact HO_24.out) hb); replace HB := bs_ hb; (try clear hb); (try simp only [errW_none, errW_some])))
            go_ret2
            exact en_
          ·rw [if_neg c14] at H; exact absurd H (by simp)
         ·rw [if_neg c13] at H; exact absurd H (by simp)
        ·rw [if_neg c12] at H; have c12b0 : decide (x26_2 < (t130.length : Int)) = false := decide_eq_false c12; clear c12
         by_cases c18 : 0 ≤ 1
         ·rw [if_pos c18] at H; have c18b0 := eq_true c18; have c18b1 : decide (0 ≤ 1) = true := decide_eq_true c18; clear c18
          by_cases c19 : 1 ≤ (a0.size : Int)
          ·rw [if_pos c19] at H; have c19b0 := eq_true c19; have c19b1 : decide (1 ≤ (a0.size : Int)) = true := decide_eq_true c19; clear c19
           by_cases c20 : (a0.extract 0 1).toList = ([45] : List UInt8)
           ·rw [if_pos c20] at H; have c20b0 : ((a0.extract 0 1).toList == ([45] : List UInt8)) = true := beq_iff_eq.mpr c20; have c20b1 : ((a0.extract 0 1).toList != ([45] : List UInt8)) = false := bne_eq_false_iff_eq.mpr c20; clear c20; simp only [Option.some.injEq, Prod.mk.injEq] at H; obtain ⟨rfl, rfl⟩ := H
            go_wp2
            go_ret2
            exact en_
           ·rw [if_neg c20] at H; have c20b0 : ((a0.extract 0 1).toList == ([45] : List UInt8)) = false := beq_eq_false_iff_ne.mpr c20; have c20b1 : ((a0.extract 0 1).toList != ([45] : List UInt8)) = true := bne_iff_ne.mpr c20; simp only [Option.some.injEq, Prod.mk.injEq] at H; obtain ⟨rfl, rfl⟩ := H
            go_wp2
            go_ret2
            exact en_
          ·rw [if_neg c19] at H; exact absurd H (by simp)
         ·rw [if_neg c18] at H; exact absurd H (by simp)
  ·rw [if_neg c3] at H; exact absurd H (by simp)
end Go.Proofs.YtfjifhkgifefeaaGreatDoor.PT
end

section
namespace Go.Proofs.YtfjifhkgifefeaaGreatDoor.PT
open Giv PA Go.RowKit YtfjifhkgifefeaaGreatDoorW.PrintWords YtfjifhkgifefeaaGreatDoorW.PrintLast YtfjifhkgifefeaaGreatDoorW.PrintMore
attribute [local go_sem] max2_int min2_int max_two min_two max_three min_three max_four min_four
set_option linter.unusedVariables false
set_option linter.unusedSimpArgs false
def told_Parse.j0 : Nat → ByteArray → Int → Int → Int → Int → Bool → Option (Int × Int × Option Int)
 | 0, _, _, _, _, _, _ => none
 | k + 1, x0, x4, x5, x6, x8, x38 => if x38 = true then (some (0, 0, some 3)) else ((num_Mul.f k (wrap64 ((wrap64 ((wrap64 (x4 * 86400)) + x5)) - x8)) 1000000000).bind fun bt149 => (if bt149.2.isNone = true then ((num_AddSat.f bt149.1 x6).bind fun t152 => ((told_Text.f k t152 x8).bind fun bt154 => (if bt154.2.isNone = true then (if bt154.1.toList = x0.toList then (some (t152, x8, none)) else (some (0, 0, some 3))) else (some (0, 0, some 3))))) else (some (0, 0, some 3))))
def told_Parse.f (k : Nat) (a0 : ByteArray) : Option (Int × Int × Option Int) := if (a0.size : Int) < 29 then (some (0, 0, some 3)) else (if 0 ≤ 29 then (if 29 ≤ (a0.size : Int) then ((daytime_Parse.f k (a0.extract 0 29)).bind fun bt142 => ((told_offset.f k (a0.extract 29 a0.size)).bind fun bt146 => (if bt142.2.2.2.isNone = true then (told_Parse.j0 k a0 bt142.1 bt142.2.1 bt142.2.2.1 bt146.1 (!bt146.2)) else (told_Parse.j0 k a0 bt142.1 bt142.2.1 bt142.2.2.1 bt146.1 true)))) else (none)) else (none))
theorem told_Parse.calls (k : Nat) (a0 : ByteArray) (r1 : Int) (r2 : Int) (r3 : Option Int) (w : World) (hl_ : Laid w) (h : told_Parse.f k a0 = some (r1, r2, r3)) :
  Calls Tryz.prog 82 #[.string a0] w fun e w' => e = .returned (.tuple #[.agg #[.int .i64 r1, .int .i64 r2], errW r3]) ∧ Below w.heap.size w w' := by
 have hu142 := Tryz.underlying142; have hu28 := Tryz.underlying28; have hu157 := Tryz.underlying157; have HL := Aside0.mk hl_; clear hl_; have HB := Aside0.mk (Below.refl w.heap.size w); have H := h; clear h
 unfold told_Parse.f at H
 by_cases c2 : (a0.size : Int) < 29
 ·rw [if_pos c2] at H; have c2b0 : decide ((a0.size : Int) < 29) = true := decide_eq_true c2; have c2b1 : decide (a0.size < 29) = true := decide_eq_true (by omega); clear c2; simp only [Option.some.injEq, Prod.mk.injEq] at H; obtain ⟨rfl, rfl, rfl⟩ := H
  go_enter Tryz.func82, Tryz.ntmps82
  go_wp2_with (first | ((with_reducible refine gate_dst (N := 2) rfl ?_); refine be_ (N := 2) (cs := #[.int .i64 0, .int .i64 0]) (t := 142) ?_; intro gb141 hg w3 hbox hb; have BK141 := Aside0.mk hbox; have GW141 := Aside0.mk (sz_ hg : w.heap.size ≤ gb141); have GE141 := GW141; replace HB := bs_ hb; clear hb hbox hg; have hcz4_0 : w3.cell? ⟨gb141, 0, none⟩ = some (.int .i64 0) := (blk_cell BK141.out 0).trans rfl; have hcz4_1 : w3.cell? ⟨gb141, 1, none⟩ = some (.int .i64 0) := (blk_cell BK141.out 1).trans rfl; have hfz4_0 := blk_frozen BK141.out 0; have hfz4_1 := blk_frozen BK141.out 1))
  refine bodyPost_ret (results_ct rfl _ _ gb141 142 #[.int .i64 0, .int .i64 0] (0, 0) _ rfl (by (with_reducible repeat first | apply blk_drewN | apply blk_drew | apply blk_alloc); refine blk_put (cs := #[.int .i64 0, .int .i64 0]) ?_ 1 _ rfl; (with_reducible repeat first | apply blk_drewN | apply blk_drew | apply blk_alloc); refine blk_put (cs := #[.int .i64 0, .int .i64 0]) ?_ 0 _ rfl; (with_reducible repeat first | apply blk_drewN | apply blk_drew | apply blk_alloc); exact BK141.out) Tryz.underlying142 rfl (by kernel_rfl)) rfl ?_
  exact en_
 ·rw [if_neg c2] at H; have c2b0 : decide ((a0.size : Int) < 29) = false := decide_eq_false c2; have c2b1 : decide (a0.size < 29) = false := decide_eq_false (by omega); clear c2
  by_cases c5 : 0 ≤ 29
  ·rw [if_pos c5] at H; have c5b0 := eq_true c5; have c5b1 : decide (0 ≤ 29) = true := decide_eq_true c5; clear c5
   by_cases c6 : 29 ≤ (a0.size : Int)
   ·rw [if_pos c6] at H; have c6b0 := eq_true c6; have c6b1 : decide (29 ≤ (a0.size : Int)) = true := decide_eq_true c6; clear c6; replace H := Option.bind_eq_some_iff.mp H; obtain ⟨⟨t142, t143, t144, t145⟩, A70, H⟩ := H; (try dsimp only at H); have A7 := Aside0.mk A70; clear A70; have c8b0 := eq_true (of_decide_eq_true as_ : 29 ≤ (a0.size : Int)); replace H := Option.bind_eq_some_iff.mp H; obtain ⟨⟨t146, t147⟩, A90, H⟩ := H; (try dsimp only at H); have A9 := Aside0.mk A90; clear A90; have HC10 := Aside0.mk H; clear H
    go_enter Tryz.func82, Tryz.ntmps82
    go_upto_region 5 with (first | ((with_reducible refine gate_dst (N := 2) rfl ?_); refine be_ (N := 2) (cs := #[.int .i64 0, .int .i64 0]) (t := 142) ?_; intro gb141 hg w11 hbox hb; have BK141 := Aside0.mk hbox; have GW141 := Aside0.mk (sz_ hg : w.heap.size ≤ gb141); have GE141 := GW141; replace HB := bs_ hb; clear hb hbox hg) | ((with_reducible refine gate_callee (f := 41) rfl ?_); refine gd_ (some 22) Tryz.func41 (daytime_Parse.calls k (a0.extract 0 29) t142 t143 t144 t145 _ lb_ A7.out) ?_; intro w12 hb; replace BK141 := bb_ BK141.out hb; replace HB := bs_ hb; (try clear hb); (try simp only [errW_none, errW_some])) | ((with_reducible refine gate_callee (f := 149) rfl ?_); refine gd_ (some 30) Tryz.func149 (told_offset.calls k (a0.extract 29 a0.size) t146 t147 _ lb_ A9.out) ?_; intro w13 hb; replace BK141 := bb_ BK141.out hb; replace HB := bs_ hb; (try clear hb)))
    (try simp only [Act.put, List.setIfInBounds_toArray, List.set_cons_zero, List.set_cons_succ])
    go_cut [38] (fun v38 wc => ∃ (kq : Nat) (x38_9 : Bool), v38 = .bool x38_9 ∧ Aside0 (told_Parse.j0 kq a0 t142 t143 t144 t146 x38_9 = some (r1, r2, r3)) ∧ Aside0 (kq ≤ k) ∧ Aside0 (wc.heap[gb141]? = some (.cells #[.int .i64 0, .int .i64 0] 142 (0, 0))) ∧ Aside0 (Below w.heap.size w wc))
    case first =>
     have H := HC10.out; clear HC10
     rcases t145 with _ | q148
     ·rw [if_pos (show (none : Option Int).isNone = true by rfl)] at H
      try dsimp only [Option.getD_some] at H
      try simp only [errW_none, errW_some]
      have H' := Aside0.mk H; clear H
      go_wp2
      go_meet
      case rel => exact ⟨_, (!t147), rs_, H', ⟨by first | omega | exact Nat.le_refl _⟩, ⟨bk_⟩, ⟨bl_⟩⟩
     ·rw [if_neg (show ¬ (some q148).isNone = true by simp)] at H
      try dsimp only [Option.getD_some] at H
      try simp only [errW_none, errW_some]
      have H' := Aside0.mk H; clear H
      go_wp2
      go_meet
      case rel => exact ⟨_, (true), rs_, H', ⟨by first | omega | exact Nat.le_refl _⟩, ⟨bk_⟩, ⟨bl_⟩⟩
    case rest =>
     clear HC10; (try clear c1); (try clear q1); (try clear c2); (try clear c2b0); (try clear c2b1); (try clear p2); (try clear c4); (try clear c5); (try clear c5b0); (try clear c5b1); (try clear c6); (try clear c6b0); (try clear c6b1); (try clear c8); (try clear c8b0); (try clear hcz4_0); (try clear hcz4_1); (try clear hfz4_0); (try clear hfz4_1); (try clear q148); obtain ⟨kq, x38_9, rfl, HA, HJ9, BK141, HB⟩ := hcut
     cases kq with
     | zero => exact absurd HA.out (by simp [told_Parse.j0])
     | succ kj9 =>
      have H := HA.out; clear HA; simp only [told_Parse.j0] at H
      by_cases c14 : x38_9 = true
      ·subst c14
       have H1 : (some (0, 0, some 3)) = some (r1, r2, r3) := by rw [if_pos rfl] at H; exact H
       clear H; have H := H1; clear H1; simp only [Option.some.injEq, Prod.mk.injEq] at H; obtain ⟨rfl, rfl, rfl⟩ := H; have hcz15_0 : wc.cell? ⟨gb141, 0, none⟩ = some (.int .i64 0) := (blk_cell BK141.out 0).trans rfl; have hcz15_1 : wc.cell? ⟨gb141, 1, none⟩ = some (.int .i64 0) := (blk_cell BK141.out 1).trans rfl; have hfz15_0 := blk_frozen BK141.out 0; have hfz15_1 := blk_frozen BK141.out 1
       go_wp2
       refine bodyPost_ret (results_ct rfl _ _ gb141 142 #[.int .i64 0, .int .i64 0] (0, 0) _ rfl (by (with_reducible repeat first | apply blk_drewN | apply blk_drew | apply blk_alloc); refine blk_put (cs := #[.int .i64 0, .int .i64 0]) ?_ 1 _ rfl; (with_reducible repeat first | apply blk_drewN | apply blk_drew | apply blk_alloc); refine blk_put (cs := #[.int .i64 0, .int .i64 0]) ?_ 0 _ rfl; (with_reducible repeat first | apply blk_drewN | apply blk_drew | apply blk_alloc); exact BK141.out) Tryz.underlying142 rfl (by kernel_rfl)) rfl ?_
       exact en_
      ·replace c14 := Bool.eq_false_iff.mpr c14; subst c14
       have H1 : ((num_Mul.f kj9 (wrap64 ((wrap64 ((wrap64 (t142 * 86400)) + t143)) - t146)) 1000000000).bind fun bt149 => (if bt149.2.isNone = true then ((num_AddSat.f bt149.1 t144).bind fun t152 => ((told_Text.f kj9 t152 t146).bind fun bt154 => (if bt154.2.isNone = true then (if bt154.1.toList = a0.toList then (some (t152, t146, none)) else (some (0, 0, some 3))) else (some (0, 0, some 3))))) else (some (0, 0, some 3)))) = some (r1, r2, r3) := by rw [if_neg (show ¬ (false = true) by decide)] at H; exact H
       clear H; have H := H1; clear H1; replace H := Option.bind_eq_some_iff.mp H; obtain ⟨⟨t149, t150⟩, A160, H⟩ := H; (try dsimp only at H); have A16 := Aside0.mk A160; clear A160
       rcases t150 with _ | q151
       ·rw [if_pos (show (none : Option Int).isNone = true by rfl)] at H
        try dsimp only [Option.getD_some] at H
        try simp only [errW_none, errW_some]
        replace H := Option.bind_eq_some_iff.mp H; obtain ⟨t152, A170, H⟩ := H; (try dsimp only at H); have A17 := Aside0.mk A170; clear A170; replace H := Option.bind_eq_some_iff.mp H; obtain ⟨⟨t154, t155⟩, A180, H⟩ := H; (try dsimp only at H); have A18 := Aside0.mk A180; clear A180
        rcases t155 with _ | q156
        ·rw [if_pos (show (none : Option Int).isNone = true by rfl)] at H
         try dsimp only [Option.getD_some] at H
         try simp only [errW_none, errW_some]
         by_cases c19 : t154.toList = a0.toList
         ·rw [if_pos c19] at H; have c19b0 : (t154.toList == a0.toList) = true := beq_iff_eq.mpr c19; have c19b1 : (t154.toList != a0.toList) = false := bne_eq_false_iff_eq.mpr c19; clear c19; simp only [Option.some.injEq, Prod.mk.injEq] at H; obtain ⟨rfl, rfl, rfl⟩ := H
          go_wp2_with (first | ((with_reducible refine gate_callee (f := 150) rfl ?_); refine gc_ (some 48) Tryz.func150 (num_Mul.calls kj9 (wrap64 ((wrap64 ((wrap64 (t142 * 86400)) + t143)) - t146)) 1000000000 t149 none _ A16.out) ?_; rintro e w' ⟨rfl, ⟨nd, rfl⟩⟩; refine ⟨_, rfl, ?_⟩; (try simp only [errW_none, errW_some]); (try (rw [drewN_self wc]; generalize hq_ : World.drewN wc _ = wc; have n0_ : Aside0 (wc.heap[gb141]? = some (.cells #[.int .i64 0, .int .i64 0] 142 (0, 0))) := ⟨by rw [← hq_]; exact bk_⟩; have n1_ : Aside0 (Below w.heap.size w wc) := ⟨by rw [← hq_]; exact bl_⟩; clear BK141 HB hq_; have BK141 := n0_; have HB := n1_; clear n0_ n1_; have hczq_BK141_0 : wc.cell? ⟨gb141, 0, none⟩ = some (.int .i64 0) := (blk_cell BK141.out 0).trans rfl; have hfzq_BK141_0 := blk_frozen BK141.out 0; have hczq_BK141_1 : wc.cell? ⟨gb141, 1, none⟩ = some (.int .i64 0) := (blk_cell BK141.out 1).trans rfl; have hfzq_BK141_1 := blk_frozen BK141.out 1))) | ((with_reducible refine gate_callee (f := 151) rfl ?_); refine gc_ (some 57) Tryz.func151 (num_AddSat.calls t149 t144 t152 _ A17.out) ?_; rintro e w' ⟨rfl, ⟨nd, rfl⟩⟩; refine ⟨_, rfl, ?_⟩; (try (rw [drewN_self wc]; generalize hq_ : World.drewN wc _ = wc; have n0_ : Aside0 (wc.heap[gb141]? = some (.cells #[.int .i64 0, .int .i64 0] 142 (0, 0))) := ⟨by rw [← hq_]; exact bk_⟩; have n1_ : Aside0 (Below w.heap.size w wc) := ⟨by rw [← hq_]; exact bl_⟩; clear BK141 HB hq_; have BK141 := n0_; have HB := n1_; clear n0_ n1_; have hczq_BK141_0 : wc.cell? ⟨gb141, 0, none⟩ = some (.int .i64 0) := (blk_cell BK141.out 0).trans rfl; have hfzq_BK141_0 := blk_frozen BK141.out 0; have hczq_BK141_1 : wc.cell? ⟨gb141, 1, none⟩ = some (.int .i64 0) := (blk_cell BK141.out 1).trans rfl; have hfzq_BK141_1 := blk_frozen BK141.out 1))) | ((with_reducible refine gate_dst (N := 11) rfl ?_); refine be_ (N := 11) (cs := #[.int .i64 0, .int .i64 0]) (t := 142) ?_; intro gb153 hg w20 hbox hb; have BK153 := Aside0.mk hbox; have GW153 := Aside0.mk (sz_ hg : w.heap.size ≤ gb153); have GE153 := GW153; have NB141_153 := Aside0.mk ((by rw [hg]; exact Nat.ne_of_lt (blk_lt (g := gb141) (o := .cells #[.int .i64 0, .int .i64 0] 142 (0, 0)) bk_) : gb141 ≠ gb153)); have NB153_141 := Aside0.mk ((by rw [hg]; exact Nat.ne_of_gt (blk_lt (g := gb141) (o := .cells #[.int .i64 0, .int .i64 0] 142 (0, 0)) bk_) : gb153 ≠ gb141)); replace BK141 := bb_ BK141.out hb; replace HB := bs_ hb; clear hb hbox hg; have hnb21 := NB153_141.out; have hnc21 := NB141_153.out; have hcz22_0 : w20.cell? ⟨gb153, 0, none⟩ = some (.int .i64 0) := (blk_cell BK153.out 0).trans rfl; have hcz22_1 : w20.cell? ⟨gb153, 1, none⟩ = some (.int .i64 0) := (blk_cell BK153.out 1).trans rfl; have hfz22_0 := blk_frozen BK153.out 0; have hfz22_1 := blk_frozen BK153.out 1) | ((with_reducible refine gate_callee (f := 80) rfl ?_); refine gd_ (some 62) Tryz.func80 (told_Text.calls kj9 t152 t146 t154 none _ lb_ A18.out) ?_; intro w23 hb; replace BK141 := Aside0.mk (blk_below (g := gb141) (o := .cells #[.int .i64 0, .int .i64 0] 142 (0, 0)) (by (with_reducible repeat first | apply blk_drewN | apply blk_drew | apply blk_alloc); refine blk_far ?_ NB141_153.out _; (with_reducible repeat first | apply blk_drewN | apply blk_drew | apply blk_alloc); refine blk_far ?_ NB141_153.out _; (with_reducible repeat first | apply blk_drewN | apply blk_drew | apply blk_alloc); exact BK141.out) hb); replace BK153 := Aside0.mk (blk_below (g := gb153) (o := .cells #[.int .i64 t152, .int .i64 t146] 142 (0, 0)) (by (with_reducible repeat first | apply blk_drewN | apply blk_drew | apply blk_alloc); refine blk_put (cs := #[.int .i64 t152, .int .i64 0]) ?_ 1 _ rfl; (with_reducible repeat first | apply blk_drewN | apply blk_drew | apply blk_alloc); refine blk_put (cs := #[.int .i64 0, .int .i64 0]) ?_ 0 _ rfl; (with_reducible repeat first | apply blk_drewN | apply blk_drew | apply blk_alloc); exact BK153.out) hb); replace HB := bs_ hb; (try simp only [errW_none, errW_some]); have hcz24_0 : w23.cell? ⟨gb153, 0, none⟩ = some (.int .i64 t152) := (blk_cell BK153.out 0).trans rfl; have hcz24_1 : w23.cell? ⟨gb153, 1, none⟩ = some (.int .i64 t146) := (blk_cell BK153.out 1).trans rfl; have hfz24_0 := blk_frozen BK153.out 0; have hfz24_1 := blk_frozen BK153.out 1; have hcz25_0 : w23.cell? ⟨gb141, 0, none⟩ = some (.int .i64 0) := (blk_cell BK141.out 0).trans rfl; have hcz25_1 : w23.cell? ⟨gb141, 1, none⟩ = some (.int .i64 0) := (blk_cell BK141.out 1).trans rfl; have hfz25_0 := blk_frozen BK141.out 0; have hfz25_1 := blk_frozen BK141.out 1))
          refine bodyPost_ret (results_ct rfl _ _ gb141 142 #[.int .i64 t152, .int .i64 t146] (0, 0) _ rfl (by (with_reducible repeat first | apply blk_drewN | apply blk_drew | apply blk_alloc); refine blk_put (cs := #[.int .i64 t152, .int .i64 0]) ?_ 1 _ rfl; (with_reducible repeat first | apply blk_drewN | apply blk_drew | apply blk_alloc); refine blk_put (cs := #[.int .i64 0, .int .i64 0]) ?_ 0 _ rfl; (with_reducible repeat first | apply blk_drewN | apply blk_drew | apply blk_alloc); exact BK141.out) Tryz.underlying142 rfl (by kernel_rfl)) rfl ?_
          exact en_
         ·rw [if_neg c19] at H; have c19b0 : (t154.toList == a0.toList) = false := beq_eq_false_iff_ne.mpr c19; have c19b1 : (t154.toList != a0.toList) = true := bne_iff_ne.mpr c19; simp only [Option.some.injEq, Prod.mk.injEq] at H; obtain ⟨rfl, rfl, rfl⟩ := H
          go_wp2_with (first | ((with_reducible refine gate_callee (f := 150) rfl ?_); refine gc_ (some 48) Tryz.func150 (num_Mul.calls kj9 (wrap64 ((wrap64 ((wrap64 (t142 * 86400)) + t143)) - t146)) 1000000000 t149 none _ A16.out) ?_; rintro e w' ⟨rfl, ⟨nd, rfl⟩⟩; refine ⟨_, rfl, ?_⟩; (try simp only [errW_none, errW_some]); (try (rw [drewN_self wc]; generalize hq_ : World.drewN wc _ = wc; have n0_ : Aside0 (wc.heap[gb141]? = some (.cells #[.int .i64 0, .int .i64 0] 142 (0, 0))) := ⟨by rw [← hq_]; exact bk_⟩; have n1_ : Aside0 (Below w.heap.size w wc) := ⟨by rw [← hq_]; exact bl_⟩; clear BK141 HB hq_; have BK141 := n0_; have HB := n1_; clear n0_ n1_; have hczq_BK141_0 : wc.cell? ⟨gb141, 0, none⟩ = some (.int .i64 0) := (blk_cell BK141.out 0).trans rfl; have hfzq_BK141_0 := blk_frozen BK141.out 0; have hczq_BK141_1 : wc.cell? ⟨gb141, 1, none⟩ = some (.int .i64 0) := (blk_cell BK141.out 1).trans rfl; have hfzq_BK141_1 := blk_frozen BK141.out 1))) | ((with_reducible refine gate_callee (f := 151) rfl ?_); refine gc_ (some 57) Tryz.func151 (num_AddSat.calls t149 t144 t152 _ A17.out) ?_; rintro e w' ⟨rfl, ⟨nd, rfl⟩⟩; refine ⟨_, rfl, ?_⟩; (try (rw [drewN_self wc]; generalize hq_ : World.drewN wc _ = wc; have n0_ : Aside0 (wc.heap[gb141]? = some (.cells #[.int .i64 0, .int .i64 0] 142 (0, 0))) := ⟨by rw [← hq_]; exact bk_⟩; have n1_ : Aside0 (Below w.heap.size w wc) := ⟨by rw [← hq_]; exact bl_⟩; clear BK141 HB hq_; have BK141 := n0_; have HB := n1_; clear n0_ n1_; have hczq_BK141_0 : wc.cell? ⟨gb141, 0, none⟩ = some (.int .i64 0) := (blk_cell BK141.out 0).trans rfl; have hfzq_BK141_0 := blk_frozen BK141.out 0; have hczq_BK141_1 : wc.cell? ⟨gb141, 1, none⟩ = some (.int .i64 0) := (blk_cell BK141.out 1).trans rfl; have hfzq_BK141_1 := blk_frozen BK141.out 1))) | ((with_reducible refine gate_dst (N := 11) rfl ?_); refine be_ (N := 11) (cs := #[.int .i64 0, .int .i64 0]) (t := 142) ?_; intro gb153 hg w26 hbox hb; have BK153 := Aside0.mk hbox; have GW153 := Aside0.mk (sz_ hg : w.heap.size ≤ gb153); have GE153 := GW153; have NB141_153 := Aside0.mk ((by rw [hg]; exact Nat.ne_of_lt (blk_lt (g := gb141) (o := .cells #[.int .i64 0, .int .i64 0] 142 (0, 0)) bk_) : gb141 ≠ gb153)); have NB153_141 := Aside0.mk ((by rw [hg]; exact Nat.ne_of_gt (blk_lt (g := gb141) (o := .cells #[.int .i64 0, .int .i64 0] 142 (0, 0)) bk_) : gb153 ≠ gb141)); replace BK141 := bb_ BK141.out hb; replace HB := bs_ hb; clear hb hbox hg; have hnb27 := NB153_141.out; have hnc27 := NB141_153.out; have hcz28_0 : w26.cell? ⟨gb153, 0, none⟩ = some (.int .i64 0) := (blk_cell BK153.out 0).trans rfl; have hcz28_1 : w26.cell? ⟨gb153, 1, none⟩ = some (.int .i64 0) := (blk_cell BK153.out 1).trans rfl; have hfz28_0 := blk_frozen BK153.out 0; have hfz28_1 := blk_frozen BK153.out 1) | ((with_reducible refine gate_callee (f := 80) rfl ?_); refine gd_ (some 62) Tryz.func80 (told_Text.calls kj9 t152 t146 t154 none _ lb_ A18.out) ?_; intro w29 hb; replace BK141 := Aside0.mk (blk_below (g := gb141) (o := .cells #[.int .i64 0, .int .i64 0] 142 (0, 0)) (by (with_reducible repeat first | apply blk_drewN | apply blk_drew | apply blk_alloc); refine blk_far ?_ NB141_153.out _; (with_reducible repeat first | apply blk_drewN | apply blk_drew | apply blk_alloc); refine blk_far ?_ NB141_153.out _; (with_reducible repeat first | apply blk_drewN | apply blk_drew | apply blk_alloc); exact BK141.out) hb); replace BK153 := Aside0.mk (blk_below (g := gb153) (o := .cells #[.int .i64 t152, .int .i64 t146] 142 (0, 0)) (by (with_reducible repeat first | apply blk_drewN | apply blk_drew | apply blk_alloc); refine blk_put (cs := #[.int .i64 t152, .int .i64 0]) ?_ 1 _ rfl; (with_reducible repeat first | apply blk_drewN | apply blk_drew | apply blk_alloc); refine blk_put (cs := #[.int .i64 0, .int .i64 0]) ?_ 0 _ rfl; (with_reducible repeat first | apply blk_drewN | apply blk_drew | apply blk_alloc); exact BK153.out) hb); replace HB := bs_ hb; (try simp only [errW_none, errW_some]); have hcz30_0 : w29.cell? ⟨gb141, 0, none⟩ = some (.int .i64 0) := (blk_cell BK141.out 0).trans rfl; have hcz30_1 : w29.cell? ⟨gb141, 1, none⟩ = some (.int .i64 0) := (blk_cell BK141.out 1).trans rfl; have hfz30_0 := blk_frozen BK141.out 0; have hfz30_1 := blk_frozen BK141.out 1))
          refine bodyPost_ret (results_ct rfl _ _ gb141 142 #[.int .i64 0, .int .i64 0] (0, 0) _ rfl (by (with_reducible repeat first | apply blk_drewN | apply blk_drew | apply blk_alloc); refine blk_put (cs := #[.int .i64 0, .int .i64 0]) ?_ 1 _ rfl; (with_reducible repeat first | apply blk_drewN | apply blk_drew | apply blk_alloc); refine blk_put (cs := #[.int .i64 0, .int .i64 0]) ?_ 0 _ rfl; (with_reducible repeat first | apply blk_drewN | apply blk_drew | apply blk_alloc); exact BK141.out) Tryz.underlying142 rfl (by kernel_rfl)) rfl ?_
          exact en_
        ·rw [if_neg (show ¬ (some q156).isNone = true by simp)] at H
         try dsimp only [Option.getD_some] at H
         try simp only [errW_none, errW_some]
         simp only [Option.some.injEq, Prod.mk.injEq] at H; obtain ⟨rfl, rfl, rfl⟩ := H
         go_wp2_with (first | ((with_reducible refine gate_callee (f := 150) rfl ?_); refine gc_ (some 48) Tryz.func150 (num_Mul.calls kj9 (wrap64 ((wrap64 ((wrap64 (t142 * 86400)) + t143)) - t146)) 1000000000 t149 none _ A16.out) ?_; rintro e w' ⟨rfl, ⟨nd, rfl⟩⟩; refine ⟨_, rfl, ?_⟩; (try simp only [errW_none, errW_some]); (try (rw [drewN_self wc]; generalize hq_ : World.drewN wc _ = wc; have n0_ : Aside0 (wc.heap[gb141]? = some (.cells #[.int .i64 0, .int .i64 0] 142 (0, 0))) := ⟨by rw [← hq_]; exact bk_⟩; have n1_ : Aside0 (Below w.heap.size w wc) := ⟨by rw [← hq_]; exact bl_⟩; clear BK141 HB hq_; have BK141 := n0_; have HB := n1_; clear n0_ n1_; have hczq_BK141_0 : wc.cell? ⟨gb141, 0, none⟩ = some (.int .i64 0) := (blk_cell BK141.out 0).trans rfl; have hfzq_BK141_0 := blk_frozen BK141.out 0; have hczq_BK141_1 : wc.cell? ⟨gb141, 1, none⟩ = some (.int .i64 0) := (blk_cell BK141.out 1).trans rfl; have hfzq_BK141_1 := blk_frozen BK141.out 1))) | ((with_reducible refine gate_callee (f := 151) rfl ?_); refine gc_ (some 57) Tryz.func151 (num_AddSat.calls t149 t144 t152 _ A17.out) ?_; rintro e w' ⟨rfl, ⟨nd, rfl⟩⟩; refine ⟨_, rfl, ?_⟩; (try (rw [drewN_self wc]; generalize hq_ : World.drewN wc _ = wc; have n0_ : Aside0 (wc.heap[gb141]? = some (.cells #[.int .i64 0, .int .i64 0] 142 (0, 0))) := ⟨by rw [← hq_]; exact bk_⟩; have n1_ : Aside0 (Below w.heap.size w wc) := ⟨by rw [← hq_]; exact bl_⟩; clear BK141 HB hq_; have BK141 := n0_; have HB := n1_; clear n0_ n1_; have hczq_BK141_0 : wc.cell? ⟨gb141, 0, none⟩ = some (.int .i64 0) := (blk_cell BK141.out 0).trans rfl; have hfzq_BK141_0 := blk_frozen BK141.out 0; have hczq_BK141_1 : wc.cell? ⟨gb141, 1, none⟩ = some (.int .i64 0) := (blk_cell BK141.out 1).trans rfl; have hfzq_BK141_1 := blk_frozen BK141.out 1))) | ((with_reducible refine gate_dst (N := 11) rfl ?_); refine be_ (N := 11) (cs := #[.int .i64 0, .int .i64 0]) (t := 142) ?_; intro gb153 hg w31 hbox hb; have BK153 := Aside0.mk hbox; have GW153 := Aside0.mk (sz_ hg : w.heap.size ≤ gb153); have GE153 := GW153; have NB141_153 := Aside0.mk ((by rw [hg]; exact Nat.ne_of_lt (blk_lt (g := gb141) (o := .cells #[.int .i64 0, .int .i64 0] 142 (0, 0)) bk_) : gb141 ≠ gb153)); have NB153_141 := Aside0.mk ((by rw [hg]; exact Nat.ne_of_gt (blk_lt (g := gb141) (o := .cells #[.int .i64 0, .int .i64 0] 142 (0, 0)) bk_) : gb153 ≠ gb141)); replace BK141 := bb_ BK141.out hb; replace HB := bs_ hb; clear hb hbox hg; have hnb32 := NB153_141.out; have hnc32 := NB141_153.out; have hcz33_0 : w31.cell? ⟨gb153, 0, none⟩ = some (.int .i64 0) := (blk_cell BK153.out 0).trans rfl; have hcz33_1 : w31.cell? ⟨gb153, 1, none⟩ = some (.int .i64 0) := (blk_cell BK153.out 1).trans rfl; have hfz33_0 := blk_frozen BK153.out 0; have hfz33_1 := blk_frozen BK153.out 1) | ((with_reducible refine gate_callee (f := 80) rfl ?_); refine gd_ (some 62) Tryz.func80 (told_Text.calls kj9 t152 t146 t154 (some q156) _ lb_ A18.out) ?_; intro w34 hb; replace BK141 := Aside0.mk (blk_below (g := gb141) (o := .cells #[.int .i64 0, .int .i64 0] 142 (0, 0)) (by (with_reducible repeat first | apply blk_drewN | apply blk_drew | apply blk_alloc); refine blk_far ?_ NB141_153.out _; (with_reducible repeat first | apply blk_drewN | apply blk_drew | apply blk_alloc); refine blk_far ?_ NB141_153.out _; (with_reducible repeat first | apply blk_drewN | apply blk_drew | apply blk_alloc); exact BK141.out) hb); replace BK153 := Aside0.mk (blk_below (g := gb153) (o := .cells #[.int .i64 t152, .int .i64 t146] 142 (0, 0)) (by (with_reducible repeat first | apply blk_drewN | apply blk_drew | apply blk_alloc); refine blk_put (cs := #[.int .i64 t152, .int .i64 0]) ?_ 1 _ rfl; (with_reducible repeat first | apply blk_drewN | apply blk_drew | apply blk_alloc); refine blk_put (cs := #[.int .i64 0, .int .i64 0]) ?_ 0 _ rfl; (with_reducible repeat first | apply blk_drewN | apply blk_drew | apply blk_alloc); exact BK153.out) hb); replace HB := bs_ hb; (try simp only [errW_none, errW_some]); have hcz35_0 : w34.cell? ⟨gb141, 0, none⟩ = some (.int .i64 0) := (blk_cell BK141.out 0).trans rfl; have hcz35_1 : w34.cell? ⟨gb141, 1, none⟩ = some (.int .i64 0) := (blk_cell BK141.out 1).trans rfl; have hfz35_0 := blk_frozen BK141.out 0; have hfz35_1 := blk_frozen BK141.out 1))
         refine bodyPost_ret (results_ct rfl _ _ gb141 142 #[.int .i64 0, .int .i64 0] (0, 0) _ rfl (by (with_reducible repeat first | apply blk_drewN | apply blk_drew | apply blk_alloc); refine blk_put (cs := #[.int .i64 0, .int .i64 0]) ?_ 1 _ rfl; (with_reducible repeat first | apply blk_drewN | apply blk_drew | apply blk_alloc); refine blk_put (cs := #[.int .i64 0, .int .i64 0]) ?_ 0 _ rfl; (with_reducible repeat first | apply blk_drewN | apply blk_drew | apply blk_alloc); exact BK141.out) Tryz.underlying142 rfl (by kernel_rfl)) rfl ?_
         exact en_
       ·rw [if_neg (show ¬ (some q151).isNone = true by simp)] at H
        try dsimp only [Option.getD_some] at H
        try simp only [errW_none, errW_some]
        simp only [Option.some.injEq, Prod.mk.injEq] at H; obtain ⟨rfl, rfl, rfl⟩ := H
        go_wp2_with (first | ((with_reducible refine gate_callee (f := 150) rfl ?_); refine gc_ (some 48) Tryz.func150 (num_Mul.calls kj9 (wrap64 ((wrap64 ((wrap64 (t142 * 86400)) + t143)) - t146)) 1000000000 t149 (some q151) _ A16.out) ?_; rintro e w' ⟨rfl, ⟨nd, rfl⟩⟩; refine ⟨_, rfl, ?_⟩; (try simp only [errW_none, errW_some]); (try (rw [drewN_self wc]; generalize hq_ : World.drewN wc _ = wc; have n0_ : Aside0 (wc.heap[gb141]? = some (.cells #[.int .i64 0, .int .i64 0] 142 (0, 0))) := ⟨by rw [← hq_]; exact bk_⟩; have n1_ : Aside0 (Below w.heap.size w wc) := ⟨by rw [← hq_]; exact bl_⟩; clear BK141 HB hq_; have BK141 := n0_; have HB := n1_; clear n0_ n1_; have hczq_BK141_0 : wc.cell? ⟨gb141, 0, none⟩ = some (.int .i64 0) := (blk_cell BK141.out 0).trans rfl; have hfzq_BK141_0 := blk_frozen BK141.out 0; have hczq_BK141_1 : wc.cell? ⟨gb141, 1, none⟩ = some (.int .i64 0) := (blk_cell BK141.out 1).trans rfl; have hfzq_BK141_1 := blk_frozen BK141.out 1)); have hcz36_0 : wc.cell? ⟨gb141, 0, none⟩ = some (.int .i64 0) := (blk_cell BK141.out 0).trans rfl; have hcz36_1 : wc.cell? ⟨gb141, 1, none⟩ = some (.int .i64 0) := (blk_cell BK141.out 1).trans rfl; have hfz36_0 := blk_frozen BK141.out 0; have hfz36_1 := blk_frozen BK141.out 1))
        refine bodyPost_ret (results_ct rfl _ _ gb141 142 #[.int .i64 0, .int .i64 0] (0, 0) _ rfl (by (with_reducible repeat first | apply blk_drewN | apply blk_drew | apply blk_alloc); refine blk_put (cs := #[.int .i64 0, .int .i64 0]) ?_ 1 _ rfl; (with_reducible repeat first | apply blk_drewN | apply blk_drew | apply blk_alloc); refine blk_put (cs := #[.int .i64 0, .int .i64 0]) ?_ 0 _ rfl; (with_reducible repeat first | apply blk_drewN | apply blk_drew | apply blk_alloc); exact BK141.out) Tryz.underlying142 rfl (by kernel_rfl)) rfl ?_
        exact en_
   ·rw [if_neg c6] at H; exact absurd H (by simp)
  ·rw [if_neg c5] at H; exact absurd H (by simp)
end Go.Proofs.YtfjifhkgifefeaaGreatDoor.PT
end

section
namespace Go.Proofs.YtfjifhkgifefeaaGreatDoor.PT
open Giv PA Go.RowKit YtfjifhkgifefeaaGreatDoorW.PrintWords YtfjifhkgifefeaaGreatDoorW.PrintLast YtfjifhkgifefeaaGreatDoorW.PrintMore
attribute [local go_sem] max2_int min2_int max_two min_two max_three min_three max_four min_four
set_option linter.unusedVariables false
set_option linter.unusedSimpArgs false
mutual
def fuseeref43_offset.j0 : Nat → ByteArray → Bool → Option (Int × Bool)
 | 0, _, _ => none
 | k + 1, x0, x40 => if x40 = true then (some (0, false)) else (if 1 ≤ 3 then (if 3 ≤ (x0.size : Int) then ((fuseeref07_Digits.f k (x0.extract 1 3)).bind fun t194 => (if 4 ≤ 6 then (if 6 ≤ (x0.size : Int) then ((fuseeref07_Digits.f k (x0.extract 4 6)).bind fun t195 => (if (x0.size : Int) = 9 then (if 7 ≤ 9 then (if 9 ≤ (x0.size : Int) then ((fuseeref07_Digits.f k (x0.extract 7 9)).bind fun t196 => (if t196 = 0 then (some (0, false)) else (fuseeref43_offset.j1 k x0 t194 t195 t196))) else (none)) else (none)) else (fuseeref43_offset.j1 k x0 t194 t195 0))) else (none)) else (none))) else (none)) else (none))
def fuseeref43_offset.j1 : Nat → ByteArray → Int → Int → Int → Option (Int × Bool)
 | 0, _, _, _, _ => none
 | k + 1, x0, x4, x5, x6 => if x4 < 0 then (fuseeref43_offset.j2 k x0 x4 x5 x6 true) else (if x4 > 23 then (fuseeref43_offset.j2 k x0 x4 x5 x6 true) else (if x5 < 0 then (fuseeref43_offset.j2 k x0 x4 x5 x6 true) else (if x5 > 59 then (fuseeref43_offset.j2 k x0 x4 x5 x6 true) else (if x6 < 0 then (fuseeref43_offset.j2 k x0 x4 x5 x6 true) else (fuseeref43_offset.j2 k x0 x4 x5 x6 (decide (x6 > 59)))))))
def fuseeref43_offset.j2 : Nat → ByteArray → Int → Int → Int → Bool → Option (Int × Bool)
 | 0, _, _, _, _, _ => none
 | k + 1, x0, x4, x5, x6, x76 => if x76 = true then (some (0, false)) else (if 0 < (x0.size : Int) then (if (bt x0 0) = 45 then (some (wrap64 (-(wrap64 ((wrap64 ((wrap64 (3600 * x4)) + (wrap64 (60 * x5)))) + x6))), decide ((wrap64 ((wrap64 ((wrap64 (3600 * x4)) + (wrap64 (60 * x5)))) + x6)) > 0))) else (some (wrap64 ((wrap64 ((wrap64 (3600 * x4)) + (wrap64 (60 * x5)))) + x6), true))) else (none))
end
def fuseeref43_offset.f (k : Nat) (a0 : ByteArray) : Option (Int × Bool) := if (a0.size : Int) = 6 then (if 0 < (a0.size : Int) then (if (bt a0 0) = 43 then (if 3 < (a0.size : Int) then (if (bt a0 3) = 58 then (if (a0.size : Int) = 9 then (if 6 < (a0.size : Int) then (fuseeref43_offset.j0 k a0 ((bt a0 6) != 58)) else (none)) else (fuseeref43_offset.j0 k a0 false)) else (fuseeref43_offset.j0 k a0 true)) else (none)) else (if (bt a0 0) = 45 then (if 3 < (a0.size : Int) then (if (bt a0 3) = 58 then (if (a0.size : Int) = 9 then (if 6 < (a0.size : Int) then (fuseeref43_offset.j0 k a0 ((bt a0 6) != 58)) else (none)) else (fuseeref43_offset.j0 k a0 false)) else (fuseeref43_offset.j0 k a0 true)) else (none)) else (fuseeref43_offset.j0 k a0 true))) else (none)) else (if (a0.size : Int) = 9 then (if 0 < (a0.size : Int) then (if (bt a0 0) = 43 then (if 3 < (a0.size : Int) then (if (bt a0 3) = 58 then (if 6 < (a0.size : Int) then (fuseeref43_offset.j0 k a0 ((bt a0 6) != 58)) else (none)) else (fuseeref43_offset.j0 k a0 true)) else (none)) else (if (bt a0 0) = 45 then (if 3 < (a0.size : Int) then (if (bt a0 3) = 58 then (if 6 < (a0.size : Int) then (fuseeref43_offset.j0 k a0 ((bt a0 6) != 58)) else (none)) else (fuseeref43_offset.j0 k a0 true)) else (none)) else (fuseeref43_offset.j0 k a0 true))) else (none)) else (fuseeref43_offset.j0 k a0 true))
theorem fuseeref43_offset.calls (k : Nat) (a0 : ByteArray) (r1 : Int) (r2 : Bool) (w : World) (h : fuseeref43_offset.f k a0 = some (r1, r2)) :
  Calls Tryz.prog 152 #[.string a0] w fun e w' => e = .returned (.tuple #[.int .i64 r1, .bool r2]) ∧ Drawn0 w w' := by
 have H := h; clear h
 unfold fuseeref43_offset.f at H
 have HC2 := Aside0.mk H; clear H
 go_enter Tryz.func152, Tryz.ntmps152
 go_upto_region 1 with (fail)
 repeat (go_quiet (fail); go_upto_region 1 with (fail))
 go_cut [40] (fun v40 wc => ∃ (kq : Nat) (x40_1 : Bool), v40 = .bool x40_1 ∧ Aside0 (fuseeref43_offset.j0 kq a0 x40_1 = some (r1, r2)) ∧ Aside0 (kq ≤ k) ∧ Drawn0 w wc)
 case first =>
  have H := HC2.out; clear HC2
  by_cases c3 : (a0.size : Int) = 6
  ·rw [if_pos c3] at H; have c3b0 : ((a0.size : Int) == 6) = true := beq_iff_eq.mpr c3; have c3b1 : ((a0.size : Int) != 6) = false := bne_eq_false_iff_eq.mpr c3; clear c3
   (first | rw [c3b0] | (simp only [i64_w, i32_w]; rw [c3b0]) | skip)
   by_cases c4 : 0 < (a0.size : Int)
   ·rw [if_pos c4] at H; have c4b0 : decide (0 < (a0.size : Int)) = true := decide_eq_true c4; have c4b1 : decide (0 < a0.size) = true := decide_eq_true (by omega); clear c4
    by_cases c6 : (bt a0 0) = 43
    ·rw [if_pos c6] at H; have c6b0 : ((bt a0 0) == 43) = true := beq_iff_eq.mpr c6; have c6b1 : ((bt a0 0) != 43) = false := bne_eq_false_iff_eq.mpr c6; clear c6
     by_cases c7 : 3 < (a0.size : Int)
     ·rw [if_pos c7] at H; have c7b0 : decide (3 < (a0.size : Int)) = true := decide_eq_true c7; have c7b1 : decide (3 < a0.size) = true := decide_eq_true (by omega); clear c7
      by_cases c9 : (bt a0 3) = 58
      ·rw [if_pos c9] at H; have c9b0 : ((bt a0 3) == 58) = true := beq_iff_eq.mpr c9; have c9b1 : ((bt a0 3) != 58) = false := bne_eq_false_iff_eq.mpr c9; clear c9
       by_cases c10 : (a0.size : Int) = 9
       ·rw [if_pos c10] at H; have c10b0 : ((a0.size : Int) == 9) = true := beq_iff_eq.mpr c10; have c10b1 : ((a0.size : Int) != 9) = false := bne_eq_false_iff_eq.mpr c10; clear c10
        by_cases c11 : 6 < (a0.size : Int)
        ·rw [if_pos c11] at H; have c11b0 : decide (6 < (a0.size : Int)) = true := decide_eq_true c11; have c11b1 : decide (6 < a0.size) = true := decide_eq_true (by omega); clear c11; have H' := Aside0.mk H; clear H
         have p5 : 0 ≤ (0 : Int) := (by omega)
         have q5 : 0 < a0.size := (by have : (0 : Int) < (a0.size : Int) := of_decide_eq_true as_; omega)
         have hx5 : ∀ h : 0 < a0.size, ((a0[0]'h).toNat : Int) = bt a0 0 := bt_at a0 0; clear p5; have qi5 : (0 < (a0.size : Int)) = True := eq_true (of_decide_eq_true as_); replace q5 := eq_true q5
         have p8 : 0 ≤ (3 : Int) := (by omega)
         have q8 : 3 < a0.size := (by have : (3 : Int) < (a0.size : Int) := of_decide_eq_true as_; omega)
         have hx8 : ∀ h : 3 < a0.size, ((a0[3]'h).toNat : Int) = bt a0 3 := bt_at a0 3; clear p8; have qi8 : (3 < (a0.size : Int)) = True := eq_true (of_decide_eq_true as_); replace q8 := eq_true q8
         have p12 : 0 ≤ (6 : Int) := (by omega)
         have q12 : 6 < a0.size := (by have : (6 : Int) < (a0.size : Int) := of_decide_eq_true as_; omega)
         have hx12 : ∀ h : 6 < a0.size, ((a0[6]'h).toNat : Int) = bt a0 6 := bt_at a0 6; clear p12; have qi12 : (6 < (a0.size : Int)) = True := eq_true (of_decide_eq_true as_); replace q12 := eq_true q12
         go_wp2
         repeat (go_quiet (fail); try go_wp2)
         go_meet
         case rel => exact ⟨_, (((bt a0 6) != 58)), rs_, H', ⟨by first | omega | exact Nat.le_refl _⟩, by repeat (first | exact Drawn0.refl _ | apply Drawn0.step)⟩
        ·rw [if_neg c11] at H; exact absurd H (by simp)
       ·rw [if_neg c10] at H; have c10b0 : ((a0.size : Int) == 9) = false := beq_eq_false_iff_ne.mpr c10; have c10b1 : ((a0.size : Int) != 9) = true := bne_iff_ne.mpr c10; have H' := Aside0.mk H; clear H
        have p5 : 0 ≤ (0 : Int) := (by omega)
        have q5 : 0 < a0.size := (by have : (0 : Int) < (a0.size : Int) := of_decide_eq_true as_; omega)
        have hx5 : ∀ h : 0 < a0.size, ((a0[0]'h).toNat : Int) = bt a0 0 := bt_at a0 0; clear p5; have qi5 : (0 < (a0.size : Int)) = True := eq_true (of_decide_eq_true as_); replace q5 := eq_true q5
        have p8 : 0 ≤ (3 : Int) := (by omega)
        have q8 : 3 < a0.size := (by have : (3 : Int) < (a0.size : Int) := of_decide_eq_true as_; omega)
        have hx8 : ∀ h : 3 < a0.size, ((a0[3]'h).toNat : Int) = bt a0 3 := bt_at a0 3; clear p8; have qi8 : (3 < (a0.size : Int)) = True := eq_true (of_decide_eq_true as_); replace q8 := eq_true q8
        go_wp2
        repeat (go_quiet (fail); try go_wp2)
        go_meet
        case rel => exact ⟨_, (false), rs_, H', ⟨by first | omega | exact Nat.le_refl _⟩, by repeat (first | exact Drawn0.refl _ | apply Drawn0.step)⟩
      ·rw [if_neg c9] at H; have c9b0 : ((bt a0 3) == 58) = false := beq_eq_false_iff_ne.mpr c9; have c9b1 : ((bt a0 3) != 58) = true := bne_iff_ne.mpr c9; have H' := Aside0.mk H; clear H
       have p5 : 0 ≤ (0 : Int) := (by omega)
       have q5 : 0 < a0.size := (by have : (0 : Int) < (a0.size : Int) := of_decide_eq_true as_; omega)
       have hx5 : ∀ h : 0 < a0.size, ((a0[0]'h).toNat : Int) = bt a0 0 := bt_at a0 0; clear p5; have qi5 : (0 < (a0.size : Int)) = True := eq_true (of_decide_eq_true as_); replace q5 := eq_true q5
       have p8 : 0 ≤ (3 : Int) := (by omega)
       have q8 : 3 < a0.size := (by have : (3 : Int) < (a0.size : Int) := of_decide_eq_true as_; omega)
       have hx8 : ∀ h : 3 < a0.size, ((a0[3]'h).toNat : Int) = bt a0 3 := bt_at a0 3; clear p8; have qi8 : (3 < (a0.size : Int)) = True := eq_true (of_decide_eq_true as_); replace q8 := eq_true q8
       go_wp2
       repeat (go_quiet (fail); try go_wp2)
       go_meet
       case rel => exact ⟨_, (true), rs_, H', ⟨by first | omega | exact Nat.le_refl _⟩, by repeat (first | exact Drawn0.refl _ | apply Drawn0.step)⟩
     ·rw [if_neg c7] at H; exact absurd H (by simp)
    ·rw [if_neg c6] at H; have c6b0 : ((bt a0 0) == 43) = false := beq_eq_false_iff_ne.mpr c6; have c6b1 : ((bt a0 0) != 43) = true := bne_iff_ne.mpr c6
     by_cases c14 : (bt a0 0) = 45
     ·rw [if_pos c14] at H; have c14b0 : ((bt a0 0) == 45) = true := beq_iff_eq.mpr c14; have c14b1 : ((bt a0 0) != 45) = false := bne_eq_false_iff_eq.mpr c14; clear c14
      by_cases c15 : 3 < (a0.size : Int)
      ·rw [if_pos c15] at H; have c15b0 : decide (3 < (a0.size : Int)) = true := decide_eq_true c15; have c15b1 : decide (3 < a0.size) = true := decide_eq_true (by omega); clear c15
       by_cases c17 : (bt a0 3) = 58
       ·rw [if_pos c17] at H; have c17b0 : ((bt a0 3) == 58) = true := beq_iff_eq.mpr c17; have c17b1 : ((bt a0 3) != 58) = false := bne_eq_false_iff_eq.mpr c17; clear c17
        by_cases c18 : (a0.size : Int) = 9
        ·rw [if_pos c18] at H; have c18b0 : ((a0.size : Int) == 9) = true := beq_iff_eq.mpr c18; have c18b1 : ((a0.size : Int) != 9) = false := bne_eq_false_iff_eq.mpr c18; clear c18
         by_cases c19 : 6 < (a0.size : Int)
         ·rw [if_pos c19] at H; have c19b0 : decide (6 < (a0.size : Int)) = true := decide_eq_true c19; have c19b1 : decide (6 < a0.size) = true := decide_eq_true (by omega); clear c19; have H' := Aside0.mk H; clear H
          have p5 : 0 ≤ (0 : Int) := (by omega)
          have q5 : 0 < a0.size := (by have : (0 : Int) < (a0.size : Int) := of_decide_eq_true as_; omega)
          have hx5 : ∀ h : 0 < a0.size, ((a0[0]'h).toNat : Int) = bt a0 0 := bt_at a0 0; clear p5; have qi5 : (0 < (a0.size : Int)) = True := eq_true (of_decide_eq_true as_); replace q5 := eq_true q5
          have p13 : 0 ≤ (0 : Int) := (by omega)
          have q13 : 0 < a0.size := (by have : (0 : Int) < (a0.size : Int) := of_decide_eq_true as_; omega)
          have hx13 : ∀ h : 0 < a0.size, ((a0[0]'h).toNat : Int) = bt a0 0 := bt_at a0 0; clear p13; have qi13 : (0 < (a0.size : Int)) = True := eq_true (of_decide_eq_true as_); replace q13 := eq_true q13
          have p16 : 0 ≤ (3 : Int) := (by omega)
          have q16 : 3 < a0.size := (by have : (3 : Int) < (a0.size : Int) := of_decide_eq_true as_; omega)
          have hx16 : ∀ h : 3 < a0.size, ((a0[3]'h).toNat : Int) = bt a0 3 := bt_at a0 3; clear p16; have qi16 : (3 < (a0.size : Int)) = True := eq_true (of_decide_eq_true as_); replace q16 := eq_true q16
          have p20 : 0 ≤ (6 : Int) := (by omega)
          have q20 : 6 < a0.size := (by have : (6 : Int) < (a0.size : Int) := of_decide_eq_true as_; omega)
          have hx20 : ∀ h : 6 < a0.size, ((a0[6]'h).toNat : Int) = bt a0 6 := bt_at a0 6; clear p20; have qi20 : (6 < (a0.size : Int)) = True := eq_true (of_decide_eq_true as_); replace q20 := eq_true q20
          go_wp2
          repeat (go_quiet (fail); try go_wp2)
          go_meet
          case rel => exact ⟨_, (((bt a0 6) != 58)), rs_, H', ⟨by first | omega | exact Nat.le_refl _⟩, by repeat (first | exact Drawn0.refl _ | apply Drawn0.step)⟩
         ·rw [if_neg c19] at H; exact absurd H (by simp)
        ·rw [if_neg c18] at H; have c18b0 : ((a0.size : Int) == 9) = false := beq_eq_false_iff_ne.mpr c18; have c18b1 : ((a0.size : Int) != 9) = true := bne_iff_ne.mpr c18; have H' := Aside0.mk H; clear H
         have p5 : 0 ≤ (0 : Int) := (by omega)
         have q5 : 0 < a0.size := (by have : (0 : Int) < (a0.size : Int) := of_decide_eq_true as_; omega)
         have hx5 : ∀ h : 0 < a0.size, ((a0[0]'h).toNat : Int) = bt a0 0 := bt_at a0 0; clear p5; have qi5 : (0 < (a0.size : Int)) = True := eq_true (of_decide_eq_true as_); replace q5 := eq_true q5
         have p13 : 0 ≤ (0 : Int) := (by omega)
         have q13 : 0 < a0.size := (by have : (0 : Int) < (a0.size : Int) := of_decide_eq_true as_; omega)
         have hx13 : ∀ h : 0 < a0.size, ((a0[0]'h).toNat : Int) = bt a0 0 := bt_at a0 0; clear p13; have qi13 : (0 < (a0.size : Int)) = True := eq_true (of_decide_eq_true as_); replace q13 := eq_true q13
         have p16 : 0 ≤ (3 : Int) := (by omega)
         have q16 : 3 < a0.size := (by have : (3 : Int) < (a0.size : Int) := of_decide_eq_true as_; omega)
         have hx16 : ∀ h : 3 < a0.size, ((a0[3]'h).toNat : Int) = bt a0 3 := bt_at a0 3; clear p16; have qi16 : (3 < (a0.size : Int)) = True := eq_true (of_decide_eq_true as_); replace q16 := eq_true q16
         go_wp2
         repeat (go_quiet (fail); try go_wp2)
         go_meet
         case rel => exact ⟨_, (false), rs_, H', ⟨by first | omega | exact Nat.le_refl _⟩, by repeat (first | exact Drawn0.refl _ | apply Drawn0.step)⟩
       ·rw [if_neg c17] at H; have c17b0 : ((bt a0 3) == 58) = false := beq_eq_false_iff_ne.mpr c17; have c17b1 : ((bt a0 3) != 58) = true := bne_iff_ne.mpr c17; have H' := Aside0.mk H; clear H
        have p5 : 0 ≤ (0 : Int) := (by omega)
        have q5 : 0 < a0.size := (by have : (0 : Int) < (a0.size : Int) := of_decide_eq_true as_; omega)
        have hx5 : ∀ h : 0 < a0.size, ((a0[0]'h).toNat : Int) = bt a0 0 := bt_at a0 0; clear p5; have qi5 : (0 < (a0.size : Int)) = True := eq_true (of_decide_eq_true as_); replace q5 := eq_true q5
        have p13 : 0 ≤ (0 : Int) := (by omega)
        have q13 : 0 < a0.size := (by have : (0 : Int) < (a0.size : Int) := of_decide_eq_true as_; omega)
        have hx13 : ∀ h : 0 < a0.size, ((a0[0]'h).toNat : Int) = bt a0 0 := bt_at a0 0; clear p13; have qi13 : (0 < (a0.size : Int)) = True := eq_true (of_decide_eq_true as_); replace q13 := eq_true q13
        have p16 : 0 ≤ (3 : Int) := (by omega)
        have q16 : 3 < a0.size := (by have : (3 : Int) < (a0.size : Int) := of_decide_eq_true as_; omega)
        have hx16 : ∀ h : 3 < a0.size, ((a0[3]'h).toNat : Int) = bt a0 3 := bt_at a0 3; clear p16; have qi16 : (3 < (a0.size : Int)) = True := eq_true (of_decide_eq_true as_); replace q16 := eq_true q16
        go_wp2
        repeat (go_quiet (fail); try go_wp2)
        go_meet
        case rel => exact ⟨_, (true), rs_, H', ⟨by first | omega | exact Nat.le_refl _⟩, by repeat (first | exact Drawn0.refl _ | apply Drawn0.step)⟩
      ·rw [if_neg c15] at H; exact absurd H (by simp)
     ·rw [if_neg c14] at H; have c14b0 : ((bt a0 0) == 45) = false := beq_eq_false_iff_ne.mpr c14; have c14b1 : ((bt a0 0) != 45) = true := bne_iff_ne.mpr c14; have H' := Aside0.mk H; clear H
      have p5 : 0 ≤ (0 : Int) := (by omega)
      have q5 : 0 < a0.size := (by have : (0 : Int) < (a0.size : Int) := of_decide_eq_true as_; omega)
      have hx5 : ∀ h : 0 < a0.size, ((a0[0]'h).toNat : Int) = bt a0 0 := bt_at a0 0; clear p5; have qi5 : (0 < (a0.size : Int)) = True := eq_true (of_decide_eq_true as_); replace q5 := eq_true q5
      have p13 : 0 ≤ (0 : Int) := (by omega)
      have q13 : 0 < a0.size := (by have : (0 : Int) < (a0.size : Int) := of_decide_eq_true as_; omega)
      have hx13 : ∀ h : 0 < a0.size, ((a0[0]'h).toNat : Int) = bt a0 0 := bt_at a0 0; clear p13; have qi13 : (0 < (a0.size : Int)) = True := eq_true (of_decide_eq_true as_); replace q13 := eq_true q13
      go_wp2
      repeat (go_quiet (fail); try go_wp2)
      go_meet
      case rel => exact ⟨_, (true), rs_, H', ⟨by first | omega | exact Nat.le_refl _⟩, by repeat (first | exact Drawn0.refl _ | apply Drawn0.step)⟩
   ·rw [if_neg c4] at H; exact absurd H (by simp)
  ·rw [if_neg c3] at H; have c3b0 : ((a0.size : Int) == 6) = false := beq_eq_false_iff_ne.mpr c3; have c3b1 : ((a0.size : Int) != 6) = true := bne_iff_ne.mpr c3
   (first | rw [c3b0] | (simp only [i64_w, i32_w]; rw [c3b0]) | skip)
   by_cases c21 : (a0.size : Int) = 9
   ·rw [if_pos c21] at H; have c21b0 : ((a0.size : Int) == 9) = true := beq_iff_eq.mpr c21; have c21b1 : ((a0.size : Int) != 9) = false := bne_eq_false_iff_eq.mpr c21; clear c21
    by_cases c22 : 0 < (a0.size : Int)
    ·rw [if_pos c22] at H; have c22b0 : decide (0 < (a0.size : Int)) = true := decide_eq_true c22; have c22b1 : decide (0 < a0.size) = true := decide_eq_true (by omega); clear c22
     by_cases c24 : (bt a0 0) = 43
     ·rw [if_pos c24] at H; have c24b0 : ((bt a0 0) == 43) = true := beq_iff_eq.mpr c24; have c24b1 : ((bt a0 0) != 43) = false := bne_eq_false_iff_eq.mpr c24; clear c24
      by_cases c25 : 3 < (a0.size : Int)
      ·rw [if_pos c25] at H; have c25b0 : decide (3 < (a0.size : Int)) = true := decide_eq_true c25; have c25b1 : decide (3 < a0.size) = true := decide_eq_true (by omega); clear c25
       by_cases c27 : (bt a0 3) = 58
       ·rw [if_pos c27] at H; have c27b0 : ((bt a0 3) == 58) = true := beq_iff_eq.mpr c27; have c27b1 : ((bt a0 3) != 58) = false := bne_eq_false_iff_eq.mpr c27; clear c27
        by_cases c28 : 6 < (a0.size : Int)
        ·rw [if_pos c28] at H; have c28b0 : decide (6 < (a0.size : Int)) = true := decide_eq_true c28; have c28b1 : decide (6 < a0.size) = true := decide_eq_true (by omega); clear c28; have H' := Aside0.mk H; clear H
         have p23 : 0 ≤ (0 : Int) := (by omega)
         have q23 : 0 < a0.size := (by have : (0 : Int) < (a0.size : Int) := of_decide_eq_true as_; omega)
         have hx23 : ∀ h : 0 < a0.size, ((a0[0]'h).toNat : Int) = bt a0 0 := bt_at a0 0; clear p23; have qi23 : (0 < (a0.size : Int)) = True := eq_true (of_decide_eq_true as_); replace q23 := eq_true q23
         have p26 : 0 ≤ (3 : Int) := (by omega)
         have q26 : 3 < a0.size := (by have : (3 : Int) < (a0.size : Int) := of_decide_eq_true as_; omega)
         have hx26 : ∀ h : 3 < a0.size, ((a0[3]'h).toNat : Int) = bt a0 3 := bt_at a0 3; clear p26; have qi26 : (3 < (a0.size : Int)) = True := eq_true (of_decide_eq_true as_); replace q26 := eq_true q26
         have p29 : 0 ≤ (6 : Int) := (by omega)
         have q29 : 6 < a0.size := (by have : (6 : Int) < (a0.size : Int) := of_decide_eq_true as_; omega)
         have hx29 : ∀ h : 6 < a0.size, ((a0[6]'h).toNat : Int) = bt a0 6 := bt_at a0 6; clear p29; have qi29 : (6 < (a0.size : Int)) = True := eq_true (of_decide_eq_true as_); replace q29 := eq_true q29
         go_wp2
         repeat (go_quiet (fail); try go_wp2)
         go_meet
         case rel => exact ⟨_, (((bt a0 6) != 58)), rs_, H', ⟨by first | omega | exact Nat.le_refl _⟩, by repeat (first | exact Drawn0.refl _ | apply Drawn0.step)⟩
        ·rw [if_neg c28] at H; exact absurd H (by simp)
       ·rw [if_neg c27] at H; have c27b0 : ((bt a0 3) == 58) = false := beq_eq_false_iff_ne.mpr c27; have c27b1 : ((bt a0 3) != 58) = true := bne_iff_ne.mpr c27; have H' := Aside0.mk H; clear H
        have p23 : 0 ≤ (0 : Int) := (by omega)
        have q23 : 0 < a0.size := (by have : (0 : Int) < (a0.size : Int) := of_decide_eq_true as_; omega)
        have hx23 : ∀ h : 0 < a0.size, ((a0[0]'h).toNat : Int) = bt a0 0 := bt_at a0 0; clear p23; have qi23 : (0 < (a0.size : Int)) = True := eq_true (of_decide_eq_true as_); replace q23 := eq_true q23
        have p26 : 0 ≤ (3 : Int) := (by omega)
        have q26 : 3 < a0.size := (by have : (3 : Int) < (a0.size : Int) := of_decide_eq_true as_; omega)
        have hx26 : ∀ h : 3 < a0.size, ((a0[3]'h).toNat : Int) = bt a0 3 := bt_at a0 3; clear p26; have qi26 : (3 < (a0.size : Int)) = True := eq_true (of_decide_eq_true as_); replace q26 := eq_true q26
        go_wp2
        repeat (go_quiet (fail); try go_wp2)
        go_meet
        case rel => exact ⟨_, (true), rs_, H', ⟨by first | omega | exact Nat.le_refl _⟩, by repeat (first | exact Drawn0.refl _ | apply Drawn0.step)⟩
      ·rw [if_neg c25] at H; exact absurd H (by simp)
     ·rw [if_neg c24] at H; have c24b0 : ((bt a0 0) == 43) = false := beq_eq_false_iff_ne.mpr c24; have c24b1 : ((bt a0 0) != 43) = true := bne_iff_ne.mpr c24
      by_cases c31 : (bt a0 0) = 45
      ·rw [if_pos c31] at H; have c31b0 : ((bt a0 0) == 45) = true := beq_iff_eq.mpr c31; have c31b1 : ((bt a0 0) != 45) = false := bne_eq_false_iff_eq.mpr c31; clear c31
       by_cases c32 : 3 < (a0.size : Int)
       ·rw [if_pos c32] at H; have c32b0 : decide (3 < (a0.size : Int)) = true := decide_eq_true c32; have c32b1 : decide (3 < a0.size) = true := decide_eq_true (by omega); clear c32
        by_cases c34 : (bt a0 3) = 58
        ·rw [if_pos c34] at H; have c34b0 : ((bt a0 3) == 58) = true := beq_iff_eq.mpr c34; have c34b1 : ((bt a0 3) != 58) = false := bne_eq_false_iff_eq.mpr c34; clear c34
         by_cases c35 : 6 < (a0.size : Int)
         ·rw [if_pos c35] at H; have c35b0 : decide (6 < (a0.size : Int)) = true := decide_eq_true c35; have c35b1 : decide (6 < a0.size) = true := decide_eq_true (by omega); clear c35; have H' := Aside0.mk H; clear H
          have p23 : 0 ≤ (0 : Int) := (by omega)
          have q23 : 0 < a0.size := (by have : (0 : Int) < (a0.size : Int) := of_decide_eq_true as_; omega)
          have hx23 : ∀ h : 0 < a0.size, ((a0[0]'h).toNat : Int) = bt a0 0 := bt_at a0 0; clear p23; have qi23 : (0 < (a0.size : Int)) = True := eq_true (of_decide_eq_true as_); replace q23 := eq_true q23
          have p30 : 0 ≤ (0 : Int) := (by omega)
          have q30 : 0 < a0.size := (by have : (0 : Int) < (a0.size : Int) := of_decide_eq_true as_; omega)
          have hx30 : ∀ h : 0 < a0.size, ((a0[0]'h).toNat : Int) = bt a0 0 := bt_at a0 0; clear p30; have qi30 : (0 < (a0.size : Int)) = True := eq_true (of_decide_eq_true as_); replace q30 := eq_true q30
          have p33 : 0 ≤ (3 : Int) := (by omega)
          have q33 : 3 < a0.size := (by have : (3 : Int) < (a0.size : Int) := of_decide_eq_true as_; omega)
          have hx33 : ∀ h : 3 < a0.size, ((a0[3]'h).toNat : Int) = bt a0 3 := bt_at a0 3; clear p33; have qi33 : (3 < (a0.size : Int)) = True := eq_true (of_decide_eq_true as_); replace q33 := eq_true q33
          have p36 : 0 ≤ (6 : Int) := (by omega)
          have q36 : 6 < a0.size := (by have : (6 : Int) < (a0.size : Int) := of_decide_eq_true as_; omega)
          have hx36 : ∀ h : 6 < a0.size, ((a0[6]'h).toNat : Int) = bt a0 6 := bt_at a0 6; clear p36; have qi36 : (6 < (a0.size : Int)) = True := eq_true (of_decide_eq_true as_); replace q36 := eq_true q36
          go_wp2
          repeat (go_quiet (fail); try go_wp2)
          go_meet
          case rel => exact ⟨_, (((bt a0 6) != 58)), rs_, H', ⟨by first | omega | exact Nat.le_refl _⟩, by repeat (first | exact Drawn0.refl _ | apply Drawn0.step)⟩
         ·rw [if_neg c35] at H; exact absurd H (by simp)
        ·rw [if_neg c34] at H; have c34b0 : ((bt a0 3) == 58) = false := beq_eq_false_iff_ne.mpr c34; have c34b1 : ((bt a0 3) != 58) = true := bne_iff_ne.mpr c34; have H' := Aside0.mk H; clear H
         have p23 : 0 ≤ (0 : Int) := (by omega)
         have q23 : 0 < a0.size := (by have : (0 : Int) < (a0.size : Int) := of_decide_eq_true as_; omega)
         have hx23 : ∀ h : 0 < a0.size, ((a0[0]'h).toNat : Int) = bt a0 0 := bt_at a0 0; clear p23; have qi23 : (0 < (a0.size : Int)) = True := eq_true (of_decide_eq_true as_); replace q23 := eq_true q23
         have p30 : 0 ≤ (0 : Int) := (by omega)
         have q30 : 0 < a0.size := (by have : (0 : Int) < (a0.size : Int) := of_decide_eq_true as_; omega)
         have hx30 : ∀ h : 0 < a0.size, ((a0[0]'h).toNat : Int) = bt a0 0 := bt_at a0 0; clear p30; have qi30 : (0 < (a0.size : Int)) = True := eq_true (of_decide_eq_true as_); replace q30 := eq_true q30
         have p33 : 0 ≤ (3 : Int) := (by omega)
         have q33 : 3 < a0.size := (by have : (3 : Int) < (a0.size : Int) := of_decide_eq_true as_; omega)
         have hx33 : ∀ h : 3 < a0.size, ((a0[3]'h).toNat : Int) = bt a0 3 := bt_at a0 3; clear p33; have qi33 : (3 < (a0.size : Int)) = True := eq_true (of_decide_eq_true as_); replace q33 := eq_true q33
         go_wp2
         repeat (go_quiet (fail); try go_wp2)
         go_meet
         case rel => exact ⟨_, (true), rs_, H', ⟨by first | omega | exact Nat.le_refl _⟩, by repeat (first | exact Drawn0.refl _ | apply Drawn0.step)⟩
       ·rw [if_neg c32] at H; exact absurd H (by simp)
      ·rw [if_neg c31] at H; have c31b0 : ((bt a0 0) == 45) = false := beq_eq_false_iff_ne.mpr c31; have c31b1 : ((bt a0 0) != 45) = true := bne_iff_ne.mpr c31; have H' := Aside0.mk H; clear H
       have p23 : 0 ≤ (0 : Int) := (by omega)
       have q23 : 0 < a0.size := (by have : (0 : Int) < (a0.size : Int) := of_decide_eq_true as_; omega)
       have hx23 : ∀ h : 0 < a0.size, ((a0[0]'h).toNat : Int) = bt a0 0 := bt_at a0 0; clear p23; have qi23 : (0 < (a0.size : Int)) = True := eq_true (of_decide_eq_true as_); replace q23 := eq_true q23
       have p30 : 0 ≤ (0 : Int) := (by omega)
       have q30 : 0 < a0.size := (by have : (0 : Int) < (a0.size : Int) := of_decide_eq_true as_; omega)
       have hx30 : ∀ h : 0 < a0.size, ((a0[0]'h).toNat : Int) = bt a0 0 := bt_at a0 0; clear p30; have qi30 : (0 < (a0.size : Int)) = True := eq_true (of_decide_eq_true as_); replace q30 := eq_true q30
       go_wp2
       repeat (go_quiet (fail); try go_wp2)
       go_meet
       case rel => exact ⟨_, (true), rs_, H', ⟨by first | omega | exact Nat.le_refl _⟩, by repeat (first | exact Drawn0.refl _ | apply Drawn0.step)⟩
    ·rw [if_neg c22] at H; exact absurd H (by simp)
   ·rw [if_neg c21] at H; have c21b0 : ((a0.size : Int) == 9) = false := beq_eq_false_iff_ne.mpr c21; have c21b1 : ((a0.size : Int) != 9) = true := bne_iff_ne.mpr c21; have H' := Aside0.mk H; clear H
    go_wp2
    repeat (go_quiet (fail); try go_wp2)
    go_meet
    case rel => exact ⟨_, (true), rs_, H', ⟨by first | omega | exact Nat.le_refl _⟩, by repeat (first | exact Drawn0.refl _ | apply Drawn0.step)⟩
 case rest =>
  clear HC2; (try clear c1); (try clear p1); (try clear q1); (try clear hx1); (try clear qi1); (try clear c2); (try clear p2); (try clear q2); (try clear hx2); (try clear qi2); (try clear c3); (try clear c3b0); (try clear c3b1); (try clear p3); (try clear q3); (try clear hx3); (try clear qi3); (try clear c4); (try clear c4b0); (try clear c4b1); (try clear p5); (try clear q5); (try clear hx5); (try clear qi5); (try clear c6); (try clear c6b0); (try clear c6b1); (try clear c7); (try clear c7b0); (try clear c7b1); (try clear p8); (try clear q8); (try clear hx8); (try clear qi8); (try clear c9); (try clear c9b0); (try clear c9b1); (try clear c10); (try clear c10b0); (try clear c10b1); (try clear c11); (try clear c11b0); (try clear c11b1); (try clear p12); (try clear q12); (try clear hx12); (try clear qi12); (try clear p13); (try clear q13); (try clear hx13); (try clear qi13); (try clear c14); (try clear c14b0); (try clear c14b1); (try clear c15); (try clear c15b0); (try clear c15b1); (try clear p16); (try clear q16); (try clear hx16); (try clear qi16); (try clear c17); (try clear c17b0); (try clear c17b1); (try clear c18); (try clear c18b0); (try clear c18b1); (try clear c19); (try clear c19b0); (try clear c19b1); (try clear p20); (try clear q20); (try clear hx20); (try clear qi20); (try clear c21); (try clear c21b0); (try clear c21b1); (try clear c22); (try clear c22b0); (try clear c22b1); (try clear p23); (try clear q23); (try clear hx23); (try clear qi23); (try clear c24); (try clear c24b0); (try clear c24b1); (try clear c25); (try clear c25b0); (try clear c25b1); (try clear p26); (try clear q26); (try clear hx26); (try clear qi26); (try clear c27); (try clear c27b0); (try clear c27b1); (try clear c28); (try clear c28b0); (try clear c28b1); (try clear p29); (try clear q29); (try clear hx29); (try clear qi29); (try clear p30); (try clear q30); (try clear hx30); (try clear qi30); (try clear c31); (try clear c31b0); (try clear c31b1); (try clear c32); (try clear c32b0); (try clear c32b1); (try clear p33); (try clear q33); (try clear hx33); (try clear qi33); (try clear c34); (try clear c34b0); (try clear c34b1); (try clear c35); (try clear c35b0); (try clear c35b1); (try clear p36); (try clear q36); (try clear hx36); (try clear qi36); (try clear p12); (try clear p13); (try clear p16); (try clear p20); (try clear p23); (try clear p26); (try clear p29); (try clear p30); (try clear p33); (try clear p36); (try clear p5); (try clear p8); (try clear q12); (try clear q13); (try clear q16); (try clear q20); (try clear q23); (try clear q26); (try clear q29); (try clear q30); (try clear q33); (try clear q36); (try clear q5); (try clear q8); obtain ⟨kq, x40_1, rfl, HA, HJ1, ⟨mc1, rfl⟩⟩ := hcut
  cases kq with
  | zero => exact absurd HA.out (by simp [fuseeref43_offset.j0])
  | succ kj1 =>
   have H := HA.out; clear HA; simp only [fuseeref43_offset.j0] at H
   by_cases c37 : x40_1 = true
   ·subst c37
    have H1 : (some (0, false)) = some (r1, r2) := by rw [if_pos rfl] at H; exact H
    clear H; have H := H1; clear H1; simp only [Option.some.injEq, Prod.mk.injEq] at H; obtain ⟨rfl, rfl⟩ := H
    go_wp2
    repeat (go_quiet (fail); try go_wp2)
    go_ret2
    exact ed_
   ·replace c37 := Bool.eq_false_iff.mpr c37; subst c37
    have H1 : (if 1 ≤ 3 then (if 3 ≤ (a0.size : Int) then ((fuseeref07_Digits.f kj1 (a0.extract 1 3)).bind fun t194 => (if 4 ≤ 6 then (if 6 ≤ (a0.size : Int) then ((fuseeref07_Digits.f kj1 (a0.extract 4 6)).bind fun t195 => (if (a0.size : Int) = 9 then (if 7 ≤ 9 then (if 9 ≤ (a0.size : Int) then ((fuseeref07_Digits.f kj1 (a0.extract 7 9)).bind fun t196 => (if t196 = 0 then (some (0, false)) else (fuseeref43_offset.j1 kj1 a0 t194 t195 t196))) else (none)) else (none)) else (fuseeref43_offset.j1 kj1 a0 t194 t195 0))) else (none)) else (none))) else (none)) else (none)) = some (r1, r2) := by rw [if_neg (show ¬ (false = true) by decide)] at H; exact H
    clear H; have H := H1; clear H1
    by_cases c38 : 1 ≤ 3
    ·rw [if_pos c38] at H; have c38b0 := eq_true c38; have c38b1 : decide (1 ≤ 3) = true := decide_eq_true c38; clear c38
     by_cases c39 : 3 ≤ (a0.size : Int)
     ·rw [if_pos c39] at H; have c39b0 := eq_true c39; have c39b1 : decide (3 ≤ (a0.size : Int)) = true := decide_eq_true c39; clear c39; replace H := Option.bind_eq_some_iff.mp H; obtain ⟨t194, A400, H⟩ := H; (try dsimp only at H); have A40 := Aside0.mk A400; clear A400
      by_cases c41 : 4 ≤ 6
      ·rw [if_pos c41] at H; have c41b0 := eq_true c41; have c41b1 : decide (4 ≤ 6) = true := decide_eq_true c41; clear c41
       by_cases c42 : 6 ≤ (a0.size : Int)
       ·rw [if_pos c42] at H; have c42b0 := eq_true c42; have c42b1 : decide (6 ≤ (a0.size : Int)) = true := decide_eq_true c42; clear c42; replace H := Option.bind_eq_some_iff.mp H; obtain ⟨t195, A430, H⟩ := H; (try dsimp only at H); have A43 := Aside0.mk A430; clear A430; have HC44 := Aside0.mk H; clear H
        go_upto_if 49 with (first | (go_at_call 98; (with_reducible refine (fuseeref07_Digits.calls kj1 (a0.extract 1 3) t194 _ A40.out).mono ?_); rintro e w' ⟨rfl, ⟨nd, rfl⟩⟩; (try exact dn_)) | (go_at_call 98; (with_reducible refine (fuseeref07_Digits.calls kj1 (a0.extract 4 6) t195 _ A43.out).mono ?_); rintro e w' ⟨rfl, ⟨nd, rfl⟩⟩; (try exact dn_)))
        repeat (go_quiet (first | (go_at_call 98; (with_reducible refine (fuseeref07_Digits.calls kj1 (a0.extract 1 3) t194 _ A40.out).mono ?_); rintro e w' ⟨rfl, ⟨nd, rfl⟩⟩; (try exact dn_)) | (go_at_call 98; (with_reducible refine (fuseeref07_Digits.calls kj1 (a0.extract 4 6) t195 _ A43.out).mono ?_); rintro e w' ⟨rfl, ⟨nd, rfl⟩⟩; (try exact dn_))); go_upto_if 49 with (first | (go_at_call 98; (with_reducible refine (fuseeref07_Digits.calls kj1 (a0.extract 1 3) t194 _ A40.out).mono ?_); rintro e w' ⟨rfl, ⟨nd, rfl⟩⟩; (try exact dn_)) | (go_at_call 98; (with_reducible refine (fuseeref07_Digits.calls kj1 (a0.extract 4 6) t195 _ A43.out).mono ?_); rintro e w' ⟨rfl, ⟨nd, rfl⟩⟩; (try exact dn_))))
        (try simp only [Act.put, List.setIfInBounds_toArray, List.set_cons_zero, List.set_cons_succ])
        go_cut [6] (fun v6 wc => ∃ (kq : Nat) (x6_43 : Int), v6 = .int .i64 x6_43 ∧ Aside0 (fuseeref43_offset.j1 kq a0 t194 t195 x6_43 = some (r1, r2)) ∧ Aside0 (kq ≤ kj1) ∧ Drawn0 w wc)
        case first =>
         have H := HC44.out; clear HC44
         by_cases c45 : (a0.size : Int) = 9
         ·rw [if_pos c45] at H; have c45b0 : ((a0.size : Int) == 9) = true := beq_iff_eq.mpr c45; have c45b1 : ((a0.size : Int) != 9) = false := bne_eq_false_iff_eq.mpr c45; clear c45
          (first | rw [c45b0] | (simp only [i64_w, i32_w]; rw [c45b0]) | skip)
          by_cases c46 : 7 ≤ 9
          ·rw [if_pos c46] at H; have c46b0 := eq_true c46; have c46b1 : decide (7 ≤ 9) = true := decide_eq_true c46; clear c46
           by_cases c47 : 9 ≤ (a0.size : Int)
           ·rw [if_pos c47] at H; have c47b0 := eq_true c47; have c47b1 : decide (9 ≤ (a0.size : Int)) = true := decide_eq_true c47; clear c47; replace H := Option.bind_eq_some_iff.mp H; obtain ⟨t196, A480, H⟩ := H; (try dsimp only at H); have A48 := Aside0.mk A480; clear A480
            by_cases c49 : t196 = 0
            ·rw [if_pos c49] at H; have c49b0 : (t196 == 0) = true := beq_iff_eq.mpr c49; have c49b1 : (t196 != 0) = false := bne_eq_false_iff_eq.mpr c49; clear c49; simp only [Option.some.injEq, Prod.mk.injEq] at H; obtain ⟨rfl, rfl⟩ := H
             go_wp2_with (first | (go_at_call 98; (with_reducible refine (fuseeref07_Digits.calls kj1 (a0.extract 7 9) t196 _ A48.out).mono ?_); rintro e w' ⟨rfl, ⟨nd, rfl⟩⟩; (try exact dn_)))
             repeat (go_quiet (first | (go_at_call 98; (with_reducible refine (fuseeref07_Digits.calls kj1 (a0.extract 7 9) t196 _ A48.out).mono ?_); rintro e w' ⟨rfl, ⟨nd, rfl⟩⟩; (try exact dn_))); try go_wp2_with (first | (go_at_call 98; (with_reducible refine (fuseeref07_Digits.calls kj1 (a0.extract 7 9) t196 _ A48.out).mono ?_); rintro e w' ⟨rfl, ⟨nd, rfl⟩⟩; (try exact dn_))))
             go_ret2
             exact ed_
            ·rw [if_neg c49] at H; have c49b0 : (t196 == 0) = false := beq_eq_false_iff_ne.mpr c49; have c49b1 : (t196 != 0) = true := bne_iff_ne.mpr c49; have H' := Aside0.mk H; clear H
             go_wp2_with (first | (go_at_call 98; (with_reducible refine (fuseeref07_Digits.calls kj1 (a0.extract 7 9) t196 _ A48.out).mono ?_); rintro e w' ⟨rfl, ⟨nd, rfl⟩⟩; (try exact dn_)))
             repeat (go_quiet (first | (go_at_call 98; (with_reducible refine (fuseeref07_Digits.calls kj1 (a0.extract 7 9) t196 _ A48.out).mono ?_); rintro e w' ⟨rfl, ⟨nd, rfl⟩⟩; (try exact dn_))); try go_wp2_with (first | (go_at_call 98; (with_reducible refine (fuseeref07_Digits.calls kj1 (a0.extract 7 9) t196 _ A48.out).mono ?_); rintro e w' ⟨rfl, ⟨nd, rfl⟩⟩; (try exact dn_))))
             go_meet
             case rel => exact ⟨_, (t196), rs_, H', ⟨by have := HJ1.out; first | omega | exact Nat.le_refl _⟩, by repeat (first | exact Drawn0.refl _ | apply Drawn0.step)⟩
           ·rw [if_neg c47] at H; exact absurd H (by simp)
          ·rw [if_neg c46] at H; exact absurd H (by simp)
         ·rw [if_neg c45] at H; have c45b0 : ((a0.size : Int) == 9) = false := beq_eq_false_iff_ne.mpr c45; have c45b1 : ((a0.size : Int) != 9) = true := bne_iff_ne.mpr c45
          (first | rw [c45b0] | (simp only [i64_w, i32_w]; rw [c45b0]) | skip)
          have H' := Aside0.mk H; clear H
          go_wp2
          repeat (go_quiet (fail); try go_wp2)
          go_meet
          case rel => exact ⟨_, (0), rs_, H', ⟨by have := HJ1.out; first | omega | exact Nat.le_refl _⟩, by repeat (first | exact Drawn0.refl _ | apply Drawn0.step)⟩
        case rest =>
         clear HC44; (try clear c1); (try clear p1); (try clear q1); (try clear hx1); (try clear qi1); (try clear c2); (try clear p2); (try clear q2); (try clear hx2); (try clear qi2); (try clear c3); (try clear c3b0); (try clear c3b1); (try clear p3); (try clear q3); (try clear hx3); (try clear qi3); (try clear c4); (try clear c4b0); (try clear c4b1); (try clear p5); (try clear q5); (try clear hx5); (try clear qi5); (try clear c6); (try clear c6b0); (try clear c6b1); (try clear c7); (try clear c7b0); (try clear c7b1); (try clear p8); (try clear q8); (try clear hx8); (try clear qi8); (try clear c9); (try clear c9b0); (try clear c9b1); (try clear c10); (try clear c10b0); (try clear c10b1); (try clear c11); (try clear c11b0); (try clear c11b1); (try clear p12); (try clear q12); (try clear hx12); (try clear qi12); (try clear p13); (try clear q13); (try clear hx13); (try clear qi13); (try clear c14); (try clear c14b0); (try clear c14b1); (try clear c15); (try clear c15b0); (try clear c15b1); (try clear p16); (try clear q16); (try clear hx16); (try clear qi16); (try clear c17); (try clear c17b0); (try clear c17b1); (try clear c18); (try clear c18b0); (try clear c18b1); (try clear c19); (try clear c19b0); (try clear c19b1); (try clear p20); (try clear q20); (try clear hx20); (try clear qi20); (try clear c21); (try clear c21b0); (try clear c21b1); (try clear c22); (try clear c22b0); (try clear c22b1); (try clear p23); (try clear q23); (try clear hx23); (try clear qi23); (try clear c24); (try clear c24b0); (try clear c24b1); (try clear c25); (try clear c25b0); (try clear c25b1); (try clear p26); (try clear q26); (try clear hx26); (try clear qi26); (try clear c27); (try clear c27b0); (try clear c27b1); (try clear c28); (try clear c28b0); (try clear c28b1); (try clear p29); (try clear q29); (try clear hx29); (try clear qi29); (try clear p30); (try clear q30); (try clear hx30); (try clear qi30); (try clear c31); (try clear c31b0); (try clear c31b1); (try clear c32); (try clear c32b0); (try clear c32b1); (try clear p33); (try clear q33); (try clear hx33); (try clear qi33); (try clear c34); (try clear c34b0); (try clear c34b1); (try clear c35); (try clear c35b0); (try clear c35b1); (try clear p36); (try clear q36); (try clear hx36); (try clear qi36); (try clear c37); (try clear c38); (try clear c38b0); (try clear c38b1); (try clear c39); (try clear c39b0); (try clear c39b1); (try clear c41); (try clear c41b0); (try clear c41b1); (try clear c42); (try clear c42b0); (try clear c42b1); (try clear c45); (try clear c45b0); (try clear c45b1); (try clear c46); (try clear c46b0); (try clear c46b1); (try clear c47); (try clear c47b0); (try clear c47b1); (try clear c49); (try clear c49b0); (try clear c49b1); (try clear p1); (try clear p12); (try clear p13); (try clear p16); (try clear p2); (try clear p20); (try clear p23); (try clear p26); (try clear p29); (try clear p3); (try clear p30); (try clear p33); (try clear p36); (try clear p5); (try clear p8); (try clear q1); (try clear q12); (try clear q13); (try clear q16); (try clear q2); (try clear q20); (try clear q23); (try clear q26); (try clear q29); (try clear q3); (try clear q30); (try clear q33); (try clear q36); (try clear q5); (try clear q8); obtain ⟨kq, x6_43, rfl, HA, HJ43, ⟨mc43, rfl⟩⟩ := hcut
         cases kq with
         | zero => exact absurd HA.out (by simp [fuseeref43_offset.j1])
         | succ kj43 =>
          have H := HA.out; clear HA; simp only [fuseeref43_offset.j1] at H; have HC50 := Aside0.mk H; clear H
          go_upto_region 8 with (fail)
          repeat (go_quiet (fail); go_upto_region 8 with (fail))
          go_cut [76] (fun v76 wc => ∃ (kq : Nat) (x76_49 : Bool), v76 = .bool x76_49 ∧ Aside0 (fuseeref43_offset.j2 kq a0 t194 t195 x6_43 x76_49 = some (r1, r2)) ∧ Aside0 (kq ≤ kj43) ∧ Drawn0 w wc)
          case first =>
           have H := HC50.out; clear HC50
           by_cases c51 : t194 < 0
           ·rw [if_pos c51] at H; have c51b0 : decide (t194 < 0) = true := decide_eq_true c51; clear c51
            (first | rw [c51b0] | (simp only [i64_w, i32_w]; rw [c51b0]) | skip)
            have H' := Aside0.mk H; clear H
            go_wp2
            repeat (go_quiet (fail); try go_wp2)
            go_meet
            case rel => exact ⟨_, (true), rs_, H', ⟨by have := HJ1.out; have := HJ43.out; first | omega | exact Nat.le_refl _⟩, by repeat (first | exact Drawn0.refl _ | apply Drawn0.step)⟩
           ·rw [if_neg c51] at H; have c51b0 : decide (t194 < 0) = false := decide_eq_false c51; clear c51
            (first | rw [c51b0] | (simp only [i64_w, i32_w]; rw [c51b0]) | skip)
            by_cases c52 : t194 > 23
            ·rw [if_pos c52] at H; have c52b0 : decide (23 < t194) = true := decide_eq_true c52; clear c52; have H' := Aside0.mk H; clear H
             go_wp2
             repeat (go_quiet (fail); try go_wp2)
             go_meet
             case rel => exact ⟨_, (true), rs_, H', ⟨by have := HJ1.out; have := HJ43.out; first | omega | exact Nat.le_refl _⟩, by repeat (first | exact Drawn0.refl _ | apply Drawn0.step)⟩
            ·rw [if_neg c52] at H; have c52b0 : decide (23 < t194) = false := decide_eq_false c52; clear c52
             by_cases c53 : t195 < 0
             ·rw [if_pos c53] at H; have c53b0 : decide (t195 < 0) = true := decide_eq_true c53; clear c53; have H' := Aside0.mk H; clear H
              go_wp2
              repeat (go_quiet (fail); try go_wp2)
              go_meet
              case rel => exact ⟨_, (true), rs_, H', ⟨by have := HJ1.out; have := HJ43.out; first | omega | exact Nat.le_refl _⟩, by repeat (first | exact Drawn0.refl _ | apply Drawn0.step)⟩
             ·rw [if_neg c53] at H; have c53b0 : decide (t195 < 0) = false := decide_eq_false c53; clear c53
              by_cases c54 : t195 > 59
              ·rw [if_pos c54] at H; have c54b0 : decide (59 < t195) = true := decide_eq_true c54; clear c54; have H' := Aside0.mk H; clear H
               go_wp2
               repeat (go_quiet (fail); try go_wp2)
               go_meet
               case rel => exact ⟨_, (true), rs_, H', ⟨by have := HJ1.out; have := HJ43.out; first | omega | exact Nat.le_refl _⟩, by repeat (first | exact Drawn0.refl _ | apply Drawn0.step)⟩
              ·rw [if_neg c54] at H; have c54b0 : decide (59 < t195) = false := decide_eq_false c54; clear c54
               by_cases c55 : x6_43 < 0
               ·rw [if_pos c55] at H; have c55b0 : decide (x6_43 < 0) = true := decide_eq_true c55; clear c55; have H' := Aside0.mk H; clear H
                go_wp2
                repeat (go_quiet (fail); try go_wp2)
                go_meet
                case rel => exact ⟨_, (true), rs_, H', ⟨by have := HJ1.out; have := HJ43.out; first | omega | exact Nat.le_refl _⟩, by repeat (first | exact Drawn0.refl _ | apply Drawn0.step)⟩
               ·rw [if_neg c55] at H; have c55b0 : decide (x6_43 < 0) = false := decide_eq_false c55; clear c55; have H' := Aside0.mk H; clear H
                go_wp2
                repeat (go_quiet (fail); try go_wp2)
                go_meet
                case rel => exact ⟨_, (decide (x6_43 > 59)), rs_, H', ⟨by have := HJ1.out; have := HJ43.out; first | omega | exact Nat.le_refl _⟩, by repeat (first | exact Drawn0.refl _ | apply Drawn0.step)⟩
          case rest =>
           clear HC50; (try clear c1); (try clear p1); (try clear q1); (try clear hx1); (try clear qi1); (try clear c2); (try clear p2); (try clear q2); (try clear hx2); (try clear qi2); (try clear c3); (try clear c3b0); (try clear c3b1); (try clear p3); (try clear q3); (try clear hx3); (try clear qi3); (try clear c4); (try clear c4b0); (try clear c4b1); (try clear c5); (try clear p5); (try clear q5); (try clear hx5); (try clear qi5); (try clear c6); (try clear c6b0); (try clear c6b1); (try clear c7); (try clear c7b0); (try clear c7b1); (try clear p8); (try clear q8); (try clear hx8); (try clear qi8); (try clear c9); (try clear c9b0); (try clear c9b1); (try clear c10); (try clear c10b0); (try clear c10b1); (try clear c11); (try clear c11b0); (try clear c11b1); (try clear p12); (try clear q12); (try clear hx12); (try clear qi12); (try clear p13); (try clear q13); (try clear hx13); (try clear qi13); (try clear c14); (try clear c14b0); (try clear c14b1); (try clear c15); (try clear c15b0); (try clear c15b1); (try clear p16); (try clear q16); (try clear hx16); (try clear qi16); (try clear c17); (try clear c17b0); (try clear c17b1); (try clear c18); (try clear c18b0); (try clear c18b1); (try clear c19); (try clear c19b0); (try clear c19b1); (try clear p20); (try clear q20); (try clear hx20); (try clear qi20); (try clear c21); (try clear c21b0); (try clear c21b1); (try clear c22); (try clear c22b0); (try clear c22b1); (try clear p23); (try clear q23); (try clear hx23); (try clear qi23); (try clear c24); (try clear c24b0); (try clear c24b1); (try clear c25); (try clear c25b0); (try clear c25b1); (try clear p26); (try clear q26); (try clear hx26); (try clear qi26); (try clear c27); (try clear c27b0); (try clear c27b1); (try clear c28); (try clear c28b0); (try clear c28b1); (try clear p29); (try clear q29); (try clear hx29); (try clear qi29); (try clear p30); (try clear q30); (try clear hx30); (try clear qi30); (try clear c31); (try clear c31b0); (try clear c31b1); (try clear c32); (try clear c32b0); (try clear c32b1); (try clear p33); (try clear q33); (try clear hx33); (try clear qi33); (try clear c34); (try clear c34b0); (try clear c34b1); (try clear c35); (try clear c35b0); (try clear c35b1); (try clear p36); (try clear q36); (try clear hx36); (try clear qi36); (try clear c37); (try clear c38); (try clear c38b0); (try clear c38b1); (try clear c39); (try clear c39b0); (try clear c39b1); (try clear c41); (try clear c41b0); (try clear c41b1); (try clear c42); (try clear c42b0); (try clear c42b1); (try clear c43); (try clear c45); (try clear c45b0); (try clear c45b1); (try clear c46); (try clear c46b0); (try clear c46b1); (try clear c47); (try clear c47b0); (try clear c47b1); (try clear c49); (try clear c49b0); (try clear c49b1); (try clear c51); (try clear c51b0); (try clear c52); (try clear c52b0); (try clear c53); (try clear c53b0); (try clear c54); (try clear c54b0); (try clear c55); (try clear c55b0); (try clear p1); (try clear p12); (try clear p13); (try clear p16); (try clear p2); (try clear p20); (try clear p23); (try clear p26); (try clear p29); (try clear p3); (try clear p30); (try clear p33); (try clear p36); (try clear p5); (try clear p8); (try clear q1); (try clear q12); (try clear q13); (try clear q16); (try clear q2); (try clear q20); (try clear q23); (try clear q26); (try clear q29); (try clear q3); (try clear q30); (try clear q33); (try clear q36); (try clear q5); (try clear q8); obtain ⟨kq, x76_49, rfl, HA, HJ49, ⟨mc49, rfl⟩⟩ := hcut
           cases kq with
           | zero => exact absurd HA.out (by simp [fuseeref43_offset.j2])
           | succ kj49 =>
            have H := HA.out; clear HA; simp only [fuseeref43_offset.j2] at H
            by_cases c56 : x76_49 = true
            ·subst c56
             have H1 : (some (0, false)) = some (r1, r2) := by rw [if_pos rfl] at H; exact H
             clear H; have H := H1; clear H1; simp only [Option.some.injEq, Prod.mk.injEq] at H; obtain ⟨rfl, rfl⟩ := H
             go_wp2
             repeat (go_quiet (fail); try go_wp2)
             go_ret2
             exact ed_
            ·replace c56 := Bool.eq_false_iff.mpr c56; subst c56
             have H1 : (if 0 < (a0.size : Int) then (if (bt a0 0) = 45 then (some (wrap64 (-(wrap64 ((wrap64 ((wrap64 (3600 * t194)) + (wrap64 (60 * t195)))) + x6_43))), decide ((wrap64 ((wrap64 ((wrap64 (3600 * t194)) + (wrap64 (60 * t195)))) + x6_43)) > 0))) else (some (wrap64 ((wrap64 ((wrap64 (3600 * t194)) + (wrap64 (60 * t195)))) + x6_43), true))) else (none)) = some (r1, r2) := by rw [if_neg (show ¬ (false = true) by decide)] at H; exact H
             clear H; have H := H1; clear H1
             by_cases c57 : 0 < (a0.size : Int)
             ·rw [if_pos c57] at H; have c57b0 : decide (0 < (a0.size : Int)) = true := decide_eq_true c57; have c57b1 : decide (0 < a0.size) = true := decide_eq_true (by omega); clear c57
              by_cases c59 : (bt a0 0) = 45
              ·rw [if_pos c59] at H; have c59b0 : ((bt a0 0) == 45) = true := beq_iff_eq.mpr c59; have c59b1 : ((bt a0 0) != 45) = false := bne_eq_false_iff_eq.mpr c59; clear c59; simp only [Option.some.injEq, Prod.mk.injEq] at H; obtain ⟨rfl, rfl⟩ := H
               have p58 : 0 ≤ (0 : Int) := (by omega)
               have q58 : 0 < a0.size := (by have : (0 : Int) < (a0.size : Int) := of_decide_eq_true as_; omega)
               have hx58 : ∀ h : 0 < a0.size, ((a0[0]'h).toNat : Int) = bt a0 0 := bt_at a0 0; clear p58; have qi58 : (0 < (a0.size : Int)) = True := eq_true (of_decide_eq_true as_); replace q58 := eq_true q58
               go_wp2
               repeat (go_quiet (fail); try go_wp2)
               go_ret2
               exact ed_
              ·rw [if_neg c59] at H; have c59b0 : ((bt a0 0) == 45) = false := beq_eq_false_iff_ne.mpr c59; have c59b1 : ((bt a0 0) != 45) = true := bne_iff_ne.mpr c59; simp only [Option.some.injEq, Prod.mk.injEq] at H; obtain ⟨rfl, rfl⟩ := H
               have p58 : 0 ≤ (0 : Int) := (by omega)
               have q58 : 0 < a0.size := (by have : (0 : Int) < (a0.size : Int) := of_decide_eq_true as_; omega)
               have hx58 : ∀ h : 0 < a0.size, ((a0[0]'h).toNat : Int) = bt a0 0 := bt_at a0 0; clear p58; have qi58 : (0 < (a0.size : Int)) = True := eq_true (of_decide_eq_true as_); replace q58 := eq_true q58
               go_wp2
               repeat (go_quiet (fail); try go_wp2)
               go_ret2
               exact ed_
             ·rw [if_neg c57] at H; exact absurd H (by simp)
       ·rw [if_neg c42] at H; exact absurd H (by simp)
      ·rw [if_neg c41] at H; exact absurd H (by simp)
     ·rw [if_neg c39] at H; exact absurd H (by simp)
    ·rw [if_neg c38] at H; exact absurd H (by simp)
end Go.Proofs.YtfjifhkgifefeaaGreatDoor.PT
end

section
namespace Go.Proofs.YtfjifhkgifefeaaGreatDoor.PT
open Giv PA Go.RowKit YtfjifhkgifefeaaGreatDoorW.PrintWords YtfjifhkgifefeaaGreatDoorW.PrintLast YtfjifhkgifefeaaGreatDoorW.PrintMore
attribute [local go_sem] max2_int min2_int max_two min_two max_three min_three max_four min_four
set_option linter.unusedVariables false
set_option linter.unusedSimpArgs false
def fuseeref43_Parse.j0 : Nat → Int → Int → Int → Int → Bool → Option (Int × Int × Int)
 | 0, _, _, _, _, _ => none
 | k + 1, x4, x5, x6, x8, x46 => if x46 = true then (some (0, 0, 3)) else ((fuseeref43_May.f (wrap64 ((wrap64 ((wrap64 ((wrap64 ((wrap64 (86400 * x4)) + x5)) - x8)) * 1000000000)) + x6)) x8).bind fun t205 => (if t205 = true then (some (wrap64 ((wrap64 ((wrap64 ((wrap64 ((wrap64 (86400 * x4)) + x5)) - x8)) * 1000000000)) + x6), x8, 0)) else (some (0, 0, 3))))
def fuseeref43_Parse.f (k : Nat) (a0 : ByteArray) : Option (Int × Int × Int) := if (a0.size : Int) < 29 then (some (0, 0, 3)) else (if 0 ≤ 29 then (if 29 ≤ (a0.size : Int) then ((fuseeref08_Parse.f k (a0.extract 0 29)).bind fun bt198 => ((fuseeref43_offset.f k (a0.extract 29 a0.size)).bind fun bt202 => (if bt198.2.2.2 = 0 then (if bt202.2 = true then (if bt198.2.1 = 86400 then (fuseeref43_Parse.j0 k bt198.1 bt198.2.1 bt198.2.2.1 bt202.1 true) else (if bt198.1 < (-60000) then (fuseeref43_Parse.j0 k bt198.1 bt198.2.1 bt198.2.2.1 bt202.1 true) else (fuseeref43_Parse.j0 k bt198.1 bt198.2.1 bt198.2.2.1 bt202.1 (decide (bt198.1 > 60000))))) else (fuseeref43_Parse.j0 k bt198.1 bt198.2.1 bt198.2.2.1 bt202.1 true)) else (fuseeref43_Parse.j0 k bt198.1 bt198.2.1 bt198.2.2.1 bt202.1 true)))) else (none)) else (none))
theorem fuseeref43_Parse.calls (k : Nat) (a0 : ByteArray) (r1 : Int) (r2 : Int) (r3 : Int) (w : World) (h : fuseeref43_Parse.f k a0 = some (r1, r2, r3)) :
  Calls Tryz.prog 83 #[.string a0] w fun e w' => e = .returned (.tuple #[.agg #[.int .i64 r1, .int .i64 r2], .int .i64 r3]) ∧ Below w.heap.size w w' := by
 have hu140 := Tryz.underlying140; have HB := Aside0.mk (Below.refl w.heap.size w); have H := h; clear h
 unfold fuseeref43_Parse.f at H
 by_cases c2 : (a0.size : Int) < 29
 ·rw [if_pos c2] at H; have c2b0 : decide ((a0.size : Int) < 29) = true := decide_eq_true c2; have c2b1 : decide (a0.size < 29) = true := decide_eq_true (by omega); clear c2; simp only [Option.some.injEq, Prod.mk.injEq] at H; obtain ⟨rfl, rfl, rfl⟩ := H
  go_enter Tryz.func83, Tryz.ntmps83
  go_wp2_with (first | ((with_reducible refine gate_dst (N := 2) rfl ?_); refine be_ (N := 2) (cs := #[.int .i64 0, .int .i64 0]) (t := 140) ?_; intro gb197 hg w3 hbox hb; have BK197 := Aside0.mk hbox; have GW197 := Aside0.mk (sz_ hg : w.heap.size ≤ gb197); have GE197 := GW197; replace HB := bs_ hb; clear hb hbox hg; have hcz4_0 : w3.cell? ⟨gb197, 0, none⟩ = some (.int .i64 0) := (blk_cell BK197.out 0).trans rfl; have hcz4_1 : w3.cell? ⟨gb197, 1, none⟩ = some (.int .i64 0) := (blk_cell BK197.out 1).trans rfl; have hfz4_0 := blk_frozen BK197.out 0; have hfz4_1 := blk_frozen BK197.out 1))
  refine bodyPost_ret (results_ct rfl _ _ gb197 140 #[.int .i64 0, .int .i64 0] (0, 0) _ rfl (by (with_reducible repeat first | apply blk_drewN | apply blk_drew | apply blk_alloc); refine blk_put (cs := #[.int .i64 0, .int .i64 0]) ?_ 1 _ rfl; (with_reducible repeat first | apply blk_drewN | apply blk_drew | apply blk_alloc); refine blk_put (cs := #[.int .i64 0, .int .i64 0]) ?_ 0 _ rfl; (with_reducible repeat first | apply blk_drewN | apply blk_drew | apply blk_alloc); exact BK197.out) Tryz.underlying140 rfl (by kernel_rfl)) rfl ?_
  exact en_
 ·rw [if_neg c2] at H; have c2b0 : decide ((a0.size : Int) < 29) = false := decide_eq_false c2; have c2b1 : decide (a0.size < 29) = false := decide_eq_false (by omega); clear c2
  by_cases c5 : 0 ≤ 29
  ·rw [if_pos c5] at H; have c5b0 := eq_true c5; have c5b1 : decide (0 ≤ 29) = true := decide_eq_true c5; clear c5
   by_cases c6 : 29 ≤ (a0.size : Int)
   ·rw [if_pos c6] at H; have c6b0 := eq_true c6; have c6b1 : decide (29 ≤ (a0.size : Int)) = true := decide_eq_true c6; clear c6; replace H := Option.bind_eq_some_iff.mp H; obtain ⟨⟨t198, t199, t200, t201⟩, A70, H⟩ := H; (try dsimp only at H); have A7 := Aside0.mk A70; clear A70; have c8b0 := eq_true (of_decide_eq_true as_ : 29 ≤ (a0.size : Int)); replace H := Option.bind_eq_some_iff.mp H; obtain ⟨⟨t202, t203⟩, A90, H⟩ := H; (try dsimp only at H); have A9 := Aside0.mk A90; clear A90; have HC10 := Aside0.mk H; clear H
    go_enter Tryz.func83, Tryz.ntmps83
    go_upto_region 5 with (first | ((with_reducible refine gate_dst (N := 2) rfl ?_); refine be_ (N := 2) (cs := #[.int .i64 0, .int .i64 0]) (t := 140) ?_; intro gb197 hg w11 hbox hb; have BK197 := Aside0.mk hbox; have GW197 := Aside0.mk (sz_ hg : w.heap.size ≤ gb197); have GE197 := GW197; replace HB := bs_ hb; clear hb hbox hg) | ((with_reducible refine gate_callee (f := 42) rfl ?_); refine gd_ (some 18) Tryz.func42 (fuseeref08_Parse.calls k (a0.extract 0 29) t198 t199 t200 t201 _ A7.out) ?_; intro w12 hb; replace BK197 := bb_ BK197.out hb; replace HB := bs_ hb; (try clear hb)) | ((with_reducible refine gate_callee (f := 152) rfl ?_); refine gc_ (some 26) Tryz.func152 (fuseeref43_offset.calls k (a0.extract 29 a0.size) t202 t203 _ A9.out) ?_; rintro e w' ⟨rfl, ⟨nd, rfl⟩⟩; refine ⟨_, rfl, ?_⟩))
    (try simp only [Act.put, List.setIfInBounds_toArray, List.set_cons_zero, List.set_cons_succ])
    go_cut [46] (fun v46 wc => ∃ (kq : Nat) (x46_9 : Bool), v46 = .bool x46_9 ∧ Aside0 (fuseeref43_Parse.j0 kq t198 t199 t200 t202 x46_9 = some (r1, r2, r3)) ∧ Aside0 (kq ≤ k) ∧ Aside0 (wc.heap[gb197]? = some (.cells #[.int .i64 0, .int .i64 0] 140 (0, 0))) ∧ Aside0 (Below w.heap.size w wc))
    case first =>
     have H := HC10.out; clear HC10
     by_cases c13 : t201 = 0
     ·rw [if_pos c13] at H; have c13b0 : (t201 == 0) = true := beq_iff_eq.mpr c13; have c13b1 : (t201 != 0) = false := bne_eq_false_iff_eq.mpr c13; clear c13
      (first | rw [c13b0] | (simp only [i64_w, i32_w]; rw [c13b0]) | skip)
      by_cases c14 : t203 = true
      ·subst c14
       have H1 : (if t199 = 86400 then (fuseeref43_Parse.j0 k t198 t199 t200 t202 true) else (if t198 < (-60000) then (fuseeref43_Parse.j0 k t198 t199 t200 t202 true) else (fuseeref43_Parse.j0 k t198 t199 t200 t202 (decide (t198 > 60000))))) = some (r1, r2, r3) := by rw [if_pos rfl] at H; exact H
       clear H; have H := H1; clear H1
       by_cases c15 : t199 = 86400
       ·rw [if_pos c15] at H; have c15b0 : (t199 == 86400) = true := beq_iff_eq.mpr c15; have c15b1 : (t199 != 86400) = false := bne_eq_false_iff_eq.mpr c15; clear c15; have H' := Aside0.mk H; clear H
        go_wp2
        go_meet
        case rel => exact ⟨_, (true), rs_, H', ⟨by first | omega | exact Nat.le_refl _⟩, ⟨bk_⟩, ⟨bl_⟩⟩
       ·rw [if_neg c15] at H; have c15b0 : (t199 == 86400) = false := beq_eq_false_iff_ne.mpr c15; have c15b1 : (t199 != 86400) = true := bne_iff_ne.mpr c15
        by_cases c16 : t198 < (-60000)
        ·rw [if_pos c16] at H; have c16b0 : decide (t198 < (-60000)) = true := decide_eq_true c16; clear c16; have H' := Aside0.mk H; clear H
         go_wp2
         go_meet
         case rel => exact ⟨_, (true), rs_, H', ⟨by first | omega | exact Nat.le_refl _⟩, ⟨bk_⟩, ⟨bl_⟩⟩
        ·rw [if_neg c16] at H; have c16b0 : decide (t198 < (-60000)) = false := decide_eq_false c16; clear c16; have H' := Aside0.mk H; clear H
         go_wp2
         go_meet
         case rel => exact ⟨_, (decide (t198 > 60000)), rs_, H', ⟨by first | omega | exact Nat.le_refl _⟩, ⟨bk_⟩, ⟨bl_⟩⟩
      ·replace c14 := Bool.eq_false_iff.mpr c14; subst c14
       have H1 : (fuseeref43_Parse.j0 k t198 t199 t200 t202 true) = some (r1, r2, r3) := by rw [if_neg (show ¬ (false = true) by decide)] at H; exact H
       clear H; have H := H1; clear H1; have H' := Aside0.mk H; clear H
       go_wp2
       go_meet
       case rel => exact ⟨_, (true), rs_, H', ⟨by first | omega | exact Nat.le_refl _⟩, ⟨bk_⟩, ⟨bl_⟩⟩
     ·rw [if_neg c13] at H; have c13b0 : (t201 == 0) = false := beq_eq_false_iff_ne.mpr c13; have c13b1 : (t201 != 0) = true := bne_iff_ne.mpr c13
      (first | rw [c13b0] | (simp only [i64_w, i32_w]; rw [c13b0]) | skip)
      have H' := Aside0.mk H; clear H
      go_wp2
      go_meet
      case rel => exact ⟨_, (true), rs_, H', ⟨by first | omega | exact Nat.le_refl _⟩, ⟨bk_⟩, ⟨bl_⟩⟩
    case rest =>
     clear HC10; (try clear c1); (try clear c2); (try clear c2b0); (try clear c2b1); (try clear p2); (try clear c4); (try clear c5); (try clear c5b0); (try clear c5b1); (try clear c6); (try clear c6b0); (try clear c6b1); (try clear c8); (try clear c8b0); (try clear c13); (try clear c13b0); (try clear c13b1); (try clear c14); (try clear c15); (try clear c15b0); (try clear c15b1); (try clear c16); (try clear c16b0); (try clear hcz4_0); (try clear hcz4_1); (try clear hfz4_0); (try clear hfz4_1); obtain ⟨kq, x46_9, rfl, HA, HJ9, BK197, HB⟩ := hcut
     cases kq with
     | zero => exact absurd HA.out (by simp [fuseeref43_Parse.j0])
     | succ kj9 =>
      have H := HA.out; clear HA; simp only [fuseeref43_Parse.j0] at H
      by_cases c17 : x46_9 = true
      ·subst c17
       have H1 : (some (0, 0, 3)) = some (r1, r2, r3) := by rw [if_pos rfl] at H; exact H
       clear H; have H := H1; clear H1; simp only [Option.some.injEq, Prod.mk.injEq] at H; obtain ⟨rfl, rfl, rfl⟩ := H; have hcz18_0 : wc.cell? ⟨gb197, 0, none⟩ = some (.int .i64 0) := (blk_cell BK197.out 0).trans rfl; have hcz18_1 : wc.cell? ⟨gb197, 1, none⟩ = some (.int .i64 0) := (blk_cell BK197.out 1).trans rfl; have hfz18_0 := blk_frozen BK197.out 0; have hfz18_1 := blk_frozen BK197.out 1
       go_wp2
       refine bodyPost_ret (results_ct rfl _ _ gb197 140 #[.int .i64 0, .int .i64 0] (0, 0) _ rfl (by (with_reducible repeat first | apply blk_drewN | apply blk_drew | apply blk_alloc); refine blk_put (cs := #[.int .i64 0, .int .i64 0]) ?_ 1 _ rfl; (with_reducible repeat first | apply blk_drewN | apply blk_drew | apply blk_alloc); refine blk_put (cs := #[.int .i64 0, .int .i64 0]) ?_ 0 _ rfl; (with_reducible repeat first | apply blk_drewN | apply blk_drew | apply blk_alloc); exact BK197.out) Tryz.underlying140 rfl (by kernel_rfl)) rfl ?_
       exact en_
      ·replace c17 := Bool.eq_false_iff.mpr c17; subst c17
       have H1 : ((fuseeref43_May.f (wrap64 ((wrap64 ((wrap64 ((wrap64 ((wrap64 (86400 * t198)) + t199)) - t202)) * 1000000000)) + t200)) t202).bind fun t205 => (if t205 = true then (some (wrap64 ((wrap64 ((wrap64 ((wrap64 ((wrap64 (86400 * t198)) + t199)) - t202)) * 1000000000)) + t200), t202, 0)) else (some (0, 0, 3)))) = some (r1, r2, r3) := by rw [if_neg (show ¬ (false = true) by decide)] at H; exact H
       clear H; have H := H1; clear H1; replace H := Option.bind_eq_some_iff.mp H; obtain ⟨t205, A190, H⟩ := H; (try dsimp only at H); have A19 := Aside0.mk A190; clear A190
       by_cases c20 : t205 = true
       ·subst c20
        have H1 : (some (wrap64 ((wrap64 ((wrap64 ((wrap64 ((wrap64 (86400 * t198)) + t199)) - t202)) * 1000000000)) + t200), t202, 0)) = some (r1, r2, r3) := by rw [if_pos rfl] at H; exact H
        clear H; have H := H1; clear H1; simp only [Option.some.injEq, Prod.mk.injEq] at H; obtain ⟨rfl, rfl, rfl⟩ := H
        go_wp2_with (first | ((with_reducible refine gate_dst (N := 10) rfl ?_); refine be_ (N := 10) (cs := #[.int .i64 0, .int .i64 0]) (t := 140) ?_; intro gb204 hg w21 hbox hb; have BK204 := Aside0.mk hbox; have GW204 := Aside0.mk (sz_ hg : w.heap.size ≤ gb204); have GE204 := GW204; have NB197_204 := Aside0.mk ((by rw [hg]; exact Nat.ne_of_lt (blk_lt (g := gb197) (o := .cells #[.int .i64 0, .int .i64 0] 140 (0, 0)) bk_) : gb197 ≠ gb204)); have NB204_197 := Aside0.mk ((by rw [hg]; exact Nat.ne_of_gt (blk_lt (g := gb197) (o := .cells #[.int .i64 0, .int .i64 0] 140 (0, 0)) bk_) : gb204 ≠ gb197)); replace BK197 := bb_ BK197.out hb; replace HB := bs_ hb; clear hb hbox hg; have hnb22 := NB204_197.out; have hnc22 := NB197_204.out; have hcz23_0 : w21.cell? ⟨gb204, 0, none⟩ = some (.int .i64 0) := (blk_cell BK204.out 0).trans rfl; have hcz23_1 : w21.cell? ⟨gb204, 1, none⟩ = some (.int .i64 0) := (blk_cell BK204.out 1).trans rfl; have hfz23_0 := blk_frozen BK204.out 0; have hfz23_1 := blk_frozen BK204.out 1) | ((with_reducible refine gate_callee (f := 90) rfl ?_); refine gd_ (some 60) Tryz.func90 (fuseeref43_May.calls (wrap64 ((wrap64 ((wrap64 ((wrap64 ((wrap64 (86400 * t198)) + t199)) - t202)) * 1000000000)) + t200)) t202 true _ A19.out) ?_; intro w24 hb; replace BK197 := Aside0.mk (blk_below (g := gb197) (o := .cells #[.int .i64 0, .int .i64 0] 140 (0, 0)) (by (with_reducible repeat first | apply blk_drewN | apply blk_drew | apply blk_alloc); refine blk_far ?_ NB197_204.out _; (with_reducible repeat first | apply blk_drewN | apply blk_drew | apply blk_alloc); refine blk_far ?_ NB197_204.out _; (with_reducible repeat first | apply blk_drewN | apply blk_drew | apply blk_alloc); exact BK197.out) hb); replace BK204 := Aside0.mk (blk_below (g := gb204) (o := .cells #[.int .i64 (wrap64 ((wrap64 ((wrap64 ((wrap64 ((wrap64 (86400 * t198)) + t199)) - t202)) * 1000000000)) + t200)), .int .i64 t202] 140 (0, 0)) (by (with_reducible repeat first | apply blk_drewN | apply blk_drew | apply blk_alloc); refine blk_put (cs := #[.int .i64 (wrap64 ((wrap64 ((wrap64 ((wrap64 ((wrap64 (86400 * t198)) + t199)) - t202)) * 1000000000)) + t200)), .int .i64 0]) ?_ 1 _ rfl; (with_reducible repeat first | apply blk_drewN | apply blk_drew | apply blk_alloc); refine blk_put (cs := #[.int .i64 0, .int .i64 0]) ?_ 0 _ rfl; (with_reducible repeat first | apply blk_drewN | apply blk_drew | apply blk_alloc); exact BK204.out) hb); replace HB := bs_ hb; (try clear hb); have hcz25_0 : w24.cell? ⟨gb204, 0, none⟩ = some (.int .i64 (wrap64 ((wrap64 ((wrap64 ((wrap64 ((wrap64 (86400 * t198)) + t199)) - t202)) * 1000000000)) + t200))) := (blk_cell BK204.out 0).trans rfl; have hcz25_1 : w24.cell? ⟨gb204, 1, none⟩ = some (.int .i64 t202) := (blk_cell BK204.out 1).trans rfl; have hfz25_0 := blk_frozen BK204.out 0; have hfz25_1 := blk_frozen BK204.out 1; have hcz26_0 : w24.cell? ⟨gb197, 0, none⟩ = some (.int .i64 0) := (blk_cell BK197.out 0).trans rfl; have hcz26_1 : w24.cell? ⟨gb197, 1, none⟩ = some (.int .i64 0) := (blk_cell BK197.out 1).trans rfl; have hfz26_0 := blk_frozen BK197.out 0; have hfz26_1 := blk_frozen BK197.out 1))
        refine bodyPost_ret (results_ct rfl _ _ gb197 140 #[.int .i64 (wrap64 ((wrap64 ((wrap64 ((wrap64 ((wrap64 (86400 * t198)) + t199)) - t202)) * 1000000000)) + t200)), .int .i64 t202] (0, 0) _ rfl (by (with_reducible repeat first | apply blk_drewN | apply blk_drew | apply blk_alloc); refine blk_put (cs := #[.int .i64 (wrap64 ((wrap64 ((wrap64 ((wrap64 ((wrap64 (86400 * t198)) + t199)) - t202)) * 1000000000)) + t200)), .int .i64 0]) ?_ 1 _ rfl; (with_reducible repeat first | apply blk_drewN | apply blk_drew | apply blk_alloc); refine blk_put (cs := #[.int .i64 0, .int .i64 0]) ?_ 0 _ rfl; (with_reducible repeat first | apply blk_drewN | apply blk_drew | apply blk_alloc); exact BK197.out) Tryz.underlying140 rfl (by kernel_rfl)) rfl ?_
        exact en_
       ·replace c20 := Bool.eq_false_iff.mpr c20; subst c20
        have H1 : (some (0, 0, 3)) = some (r1, r2, r3) := by rw [if_neg (show ¬ (false = true) by decide)] at H; exact H
        clear H; have H := H1; clear H1; simp only [Option.some.injEq, Prod.mk.injEq] at H; obtain ⟨rfl, rfl, rfl⟩ := H
        go_wp2_with (first | ((with_reducible refine gate_dst (N := 10) rfl ?_); refine be_ (N := 10) (cs := #[.int .i64 0, .int .i64 0]) (t := 140) ?_; intro gb204 hg w27 hbox hb; have BK204 := Aside0.mk hbox; have GW204 := Aside0.mk (sz_ hg : w.heap.size ≤ gb204); have GE204 := GW204; have NB197_204 := Aside0.mk ((by rw [hg]; exact Nat.ne_of_lt (blk_lt (g := gb197) (o := .cells #[.int .i64 0, .int .i64 0] 140 (0, 0)) bk_) : gb197 ≠ gb204)); have NB204_197 := Aside0.mk ((by rw [hg]; exact Nat.ne_of_gt (blk_lt (g := gb197) (o := .cells #[.int .i64 0, .int .i64 0] 140 (0, 0)) bk_) : gb204 ≠ gb197)); replace BK197 := bb_ BK197.out hb; replace HB := bs_ hb; clear hb hbox hg; have hnb28 := NB204_197.out; have hnc28 := NB197_204.out; have hcz29_0 : w27.cell? ⟨gb204, 0, none⟩ = some (.int .i64 0) := (blk_cell BK204.out 0).trans rfl; have hcz29_1 : w27.cell? ⟨gb204, 1, none⟩ = some (.int .i64 0) := (blk_cell BK204.out 1).trans rfl; have hfz29_0 := blk_frozen BK204.out 0; have hfz29_1 := blk_frozen BK204.out 1) | ((with_reducible refine gate_callee (f := 90) rfl ?_); refine gd_ (some 60) Tryz.func90 (fuseeref43_May.calls (wrap64 ((wrap64 ((wrap64 ((wrap64 ((wrap64 (86400 * t198)) + t199)) - t202)) * 1000000000)) + t200)) t202 false _ A19.out) ?_; intro w30 hb; replace BK197 := Aside0.mk (blk_below (g := gb197) (o := .cells #[.int .i64 0, .int .i64 0] 140 (0, 0)) (by (with_reducible repeat first | apply blk_drewN | apply blk_drew | apply blk_alloc); refine blk_far ?_ NB197_204.out _; (with_reducible repeat first | apply blk_drewN | apply blk_drew | apply blk_alloc); refine blk_far ?_ NB197_204.out _; (with_reducible repeat first | apply blk_drewN | apply blk_drew | apply blk_alloc); exact BK197.out) hb); replace BK204 := Aside0.mk (blk_below (g := gb204) (o := .cells #[.int .i64 (wrap64 ((wrap64 ((wrap64 ((wrap64 ((wrap64 (86400 * t198)) + t199)) - t202)) * 1000000000)) + t200)), .int .i64 t202] 140 (0, 0)) (by (with_reducible repeat first | apply blk_drewN | apply blk_drew | apply blk_alloc); refine blk_put (cs := #[.int .i64 (wrap64 ((wrap64 ((wrap64 ((wrap64 ((wrap64 (86400 * t198)) + t199)) - t202)) * 1000000000)) + t200)), .int .i64 0]) ?_ 1 _ rfl; (with_reducible repeat first | apply blk_drewN | apply blk_drew | apply blk_alloc); refine blk_put (cs := #[.int .i64 0, .int .i64 0]) ?_ 0 _ rfl; (with_reducible repeat first | apply blk_drewN | apply blk_drew | apply blk_alloc); exact BK204.out) hb); replace HB := bs_ hb; (try clear hb); have hcz31_0 : w30.cell? ⟨gb197, 0, none⟩ = some (.int .i64 0) := (blk_cell BK197.out 0).trans rfl; have hcz31_1 : w30.cell? ⟨gb197, 1, none⟩ = some (.int .i64 0) := (blk_cell BK197.out 1).trans rfl; have hfz31_0 := blk_frozen BK197.out 0; have hfz31_1 := blk_frozen BK197.out 1))
        refine bodyPost_ret (results_ct rfl _ _ gb197 140 #[.int .i64 0, .int .i64 0] (0, 0) _ rfl (by (with_reducible repeat first | apply blk_drewN | apply blk_drew | apply blk_alloc); refine blk_put (cs := #[.int .i64 0, .int .i64 0]) ?_ 1 _ rfl; (with_reducible repeat first | apply blk_drewN | apply blk_drew | apply blk_alloc); refine blk_put (cs := #[.int .i64 0, .int .i64 0]) ?_ 0 _ rfl; (with_reducible repeat first | apply blk_drewN | apply blk_drew | apply blk_alloc); exact BK197.out) Tryz.underlying140 rfl (by kernel_rfl)) rfl ?_
        exact en_
   ·rw [if_neg c6] at H; exact absurd H (by simp)
  ·rw [if_neg c5] at H; exact absurd H (by simp)
end Go.Proofs.YtfjifhkgifefeaaGreatDoor.PT
end

section
/- What the printed told.offset and the document's offset answer. -/
namespace Go.Proofs.YtfjifhkgifefeaaGreatDoor.CivP
open Go.RowKit Go.Proofs.YtfjifhkgifefeaaGreatDoor.PA Go.Proofs.YtfjifhkgifefeaaGreatDoor.PT Go.Proofs.YtfjifhkgifefeaaGreatDoor.CivM Go.Proofs.YtfjifhkgifefeaaGreatDoor.StrM Go.Proofs.YtfjifhkgifefeaaGreatDoor.Giv Go.Proofs.YtfjifhkgifefeaaGreatDoorW.PrintWords
theorem pint8 : ∀ n : Fin 100, Lib.parseIntB 8 (digs 2 (n.val : Int)) = .ok (n.val : Int) := by decide +kernel
theorem pint8' (n : Int) (h0 : 0 ≤ n) (h1 : n ≤ 99) : strconv_ParseInt.f ⟨(digs 2 n).toArray⟩ 10 8 = some (n, none) := by
  obtain ⟨u, rfl⟩ : ∃ u : Nat, n = u := ⟨n.toNat, by omega⟩
  unfold strconv_ParseInt.f
  rw [if_pos ⟨rfl, .inr rfl, by rw [ba_size, digs_len]; omega⟩]; have h := pint8 ⟨u, by omega⟩; rw [show (8 : Int).toNat = 8 from rfl]
  simp only at h
  rw [h]
theorem splitC_le (c : UInt8) : ∀ (l p : List UInt8), p ∈ splitC c l → p.length ≤ l.length
  | [], p, h => by simp [splitC] at h; simp [h]
  | b :: l, p, h => by
    simp only [splitC] at h
    split at h
    · rcases List.mem_cons.1 h with rfl | h
      · simp
      · have := splitC_le c l p h; simp; omega
    · split at h
      · rename_i h2 t e
        rcases List.mem_cons.1 h with rfl | h
        · have := splitC_le c l h2 (by rw [e]; exact List.mem_cons_self ..); simp; omega
        · have := splitC_le c l p (by rw [e]; exact List.mem_cons_of_mem _ h); simp; omega
      · rename_i e; exact absurd e (splitC_ne c l)
/-- The pieces of a text, as the machine's strings. -/
def pieces (c : UInt8) (s : ByteArray) : List ByteArray := Lib.splitB ⟨#[c]⟩ 0 (Lib.countB s ⟨#[c]⟩) s
theorem pieces_map (c : UInt8) (s : ByteArray) : (pieces c s).map (·.data.toList) = splitC c s.data.toList := splitB_eq c s
theorem ba_eta (p : ByteArray) : (⟨p.data.toList.toArray⟩ : ByteArray) = p := by cases p; simp
theorem pieces_eq (c : UInt8) (s : ByteArray) (L : List (List UInt8)) (h : splitC c s.data.toList = L) : pieces c s = L.map (fun x => ⟨x.toArray⟩) := by
  rw [← h, ← pieces_map, List.map_map]
  conv => lhs; rw [← List.map_id (pieces c s)]
  apply List.map_congr_left
  intro p _
  exact (ba_eta p).symm
theorem pieces_size (c : UInt8) (s p : ByteArray) (h : p ∈ pieces c s) : p.size ≤ s.size := by
  have h2 : p.data.toList ∈ splitC c s.data.toList := by rw [← pieces_map]; exact List.mem_map_of_mem h
  have := splitC_le c _ _ h2; rw [Lib.size_eq, Lib.size_eq]; exact this
theorem splitC_len (c : UInt8) : ∀ l : List UInt8, (splitC c l).length ≤ l.length + 1
  | [] => by simp [splitC]
  | b :: l => by
    have ih := splitC_len c l; simp only [splitC]
    split
    · simp; omega
    · split
      · rename_i e; rw [e] at ih; simp at ih ⊢; omega
      · simp
theorem pieces_len (c : UInt8) (s : ByteArray) : (pieces c s).length ≤ s.size + 1 := by
  have h := congrArg List.length (pieces_map c s); rw [List.length_map] at h; rw [h]; have := splitC_len c s.data.toList; rw [Lib.size_eq]; exact this
theorem split_f (c : UInt8) (s : ByteArray) (h : s.size ≤ 1000) : strings_Split.f s ⟨#[c]⟩ = some (pieces c s) := by
  unfold strings_Split.f
  have hl := pieces_len c s; rw [if_pos ⟨by omega, by simp [ByteArray.size], by show (pieces c s).length ≤ _; omega⟩]
  rfl
theorem pint_some (s : ByteArray) (h : s.size ≤ 1000) : ∃ v r, strconv_ParseInt.f s 10 8 = some (v, r) := by
  unfold strconv_ParseInt.f
  rw [if_pos ⟨rfl, .inr rfl, by omega⟩]
  split <;> exact ⟨_, _, rfl⟩
def i64 (x : Int) : Prop := -9223372036854775808 ≤ x ∧ x ≤ 9223372036854775807
theorem i64_wrap (x : Int) : i64 (wrap64 x) := by unfold i64 wrap64; omega
theorem toff_l (k : Nat) : ∀ (s : ByteArray) (o by' : Int) (l : List ByteArray) (i : Int), 1 ≤ s.size → (∀ p ∈ l, p.size ≤ 1000) → l.length ≤ 100 → 0 ≤ i → i ≤ l.length → ((l.length : Int) - i).toNat < k → i64 o →
    ∃ r b, i64 r ∧ told_offset.l0 k s o by' l (l.length : Int) i = some (r, b) := by
  induction k with
  | zero => intro s o by' l i _ _ _ _ _ h; omega
  | succ k ih =>
    intro s o by' l i hs hp hl h0 h1 hk ho
    simp only [told_offset.l0]
    by_cases c : i < (l.length : Int)
    · rw [if_pos c, if_pos h0, if_pos c]
      have hm : rdOf ByteArray.empty l i ∈ l := by
        unfold rdOf
        rw [List.getD_eq_getElem?_getD, List.getElem?_eq_getElem (by omega)]
        exact List.getElem_mem ..
      obtain ⟨v, r, e⟩ := pint_some _ (hp _ hm); rw [e]; simp only [Option.bind_some]
      by_cases d : r.isNone = true
      · rw [if_pos d, wid (x := i + 1) (by omega) (by omega)]
        exact ih s _ _ l (i + 1) hs hp hl (by omega) (by omega) (by omega) (i64_wrap _)
      · rw [if_neg d]; exact ⟨0, false, by unfold i64; omega, rfl⟩
    · rw [if_neg c, if_pos (by omega), if_pos (by omega)]
      split
      · exact ⟨_, _, i64_wrap _, rfl⟩
      · exact ⟨_, _, ho, rfl⟩
theorem toff_some (k : Nat) (s : ByteArray) (hs : s.size ≤ 100) (hk : 10 ≤ k) : ∃ r b, i64 r ∧ told_offset.f k s = some (r, b) := by
  obtain ⟨k, rfl⟩ : ∃ j, k = j + 1 := ⟨k - 1, by omega⟩
  have z : i64 0 := by unfold i64; omega
  unfold told_offset.f
  by_cases c : s.toList = ([] : List UInt8)
  · rw [if_pos c]; exact ⟨_, _, z, rfl⟩
  · rw [if_neg c]
    have h1 : 1 ≤ s.size := by
      rw [ByteArray.toList_eq] at c
      rcases Nat.eq_zero_or_pos s.size with h | h
      · exact absurd (List.eq_nil_of_length_eq_zero (by rw [← Lib.size_eq]; exact h)) c
      · exact h
    rw [if_pos (by omega)]
    have hz : (s.extract 1 s.size).size ≤ 100 := by simp [ByteArray.size_extract]; omega
    rw [split_f 58 _ (by omega)]; simp only [Option.bind_some]
    by_cases d : ((pieces 58 (s.extract 1 s.size)).length : Int) < 2
    · rw [if_pos d]; exact ⟨0, false, z, by simp [told_offset.j0]⟩
    · rw [if_neg d]
      by_cases e : ((pieces 58 (s.extract 1 s.size)).length : Int) > 3
      · rw [decide_eq_true e]; exact ⟨0, false, z, by simp [told_offset.j0]⟩
      · rw [decide_eq_false e]; simp only [told_offset.j0, Bool.false_eq_true, if_false]
        exact toff_l k s 0 3600 _ 0 h1 (fun p hp => by have := pieces_size 58 _ p hp; omega) (by omega) (by omega) (by omega) (by omega) z
theorem not58 (n : Int) : (58 : UInt8) ∉ digs 2 n := by
  intro h
  simp only [digs, List.nil_append, List.cons_append, List.mem_cons, List.not_mem_nil, or_false] at h
  have d : ∀ x : Int, 0 ≤ x → x ≤ 9 → (58 : UInt8) ≠ dg x := fun x a b e => by
    have := congrArg UInt8.toNat e; rw [dg_toNat x a b] at this; have : (58 : UInt8).toNat = 58 := rfl
    omega
  rcases h with h | h
  · exact d _ (by omega) (by omega) h
  · exact d _ (by omega) (by omega) h
theorem split_tail (n : Int) : splitC 58 (tailT n) = [digs 2 (n / 3600), digs 2 (n / 60 % 60)] ++ (if n % 60 = 0 then [] else [digs 2 (n % 60)]) := by
  unfold tailT
  rw [splitC_app 58 _ _ (not58 _)]
  split
  · rw [List.append_nil, splitC_none 58 _ (not58 _)]; rfl
  · rw [splitC_app 58 _ _ (not58 _), splitC_none 58 _ (not58 _)]; rfl
theorem toff_l_step (k : Nat) (s : ByteArray) (o by' v : Int) (l : List ByteArray) (i : Nat) (p : ByteArray) (hi : l[i]? = some p) (hp : strconv_ParseInt.f p 10 8 = some (v, none)) (hl : l.length ≤ 100) :
    told_offset.l0 (k + 1) s o by' l (l.length : Int) (i : Int) = told_offset.l0 k s (wrap64 (o + wrap64 (v * by'))) (wrap64 (Int.tdiv by' 60)) l (l.length : Int) ((i + 1 : Nat) : Int) := by
  obtain ⟨h, e⟩ := List.getElem?_eq_some_iff.1 hi
  conv => lhs; simp only [told_offset.l0]
  have hm : rdOf ByteArray.empty l (i : Int) = p := by
    unfold rdOf
    rw [List.getD_eq_getElem?_getD, Int.toNat_natCast, hi]; rfl
  rw [if_pos (by omega), if_pos (by omega), if_pos (by omega), hm, hp]; simp only [Option.bind_some, Option.isNone_none, if_true]; rw [wid (x := (i : Int) + 1) (by omega) (by omega)]
  rfl
theorem toff_l_end (k : Nat) (s : ByteArray) (o by' : Int) (l : List ByteArray) (c : UInt8) (t : List UInt8) (hs : s = ⟨(c :: t).toArray⟩) : told_offset.l0 (k + 1) s o by' l (l.length : Int) (l.length : Int) = some (if c = 45 then wrap64 (-o) else o, true) := by
  simp only [told_offset.l0]; subst hs; rw [if_neg (by omega), if_pos (by omega), if_pos (by rw [ba_size]; simp; omega)]
  have e : ((⟨(c :: t).toArray⟩ : ByteArray).extract 0 1).toList = [c] := by
    rw [ByteArray.toList_eq]; simp
  rw [e]
  by_cases h : c = 45
  · rw [if_pos (by rw [h]), if_pos h]
  · rw [if_neg (by simpa using h), if_neg h]
theorem toff_add (k : Nat) (off : Int) (hk : 10 ≤ k) (h0 : -86399 ≤ off) (h1 : off ≤ 86399) : told_offset.f k ⟨(addT off).toArray⟩ = some (off, true) := by
  obtain ⟨k, rfl⟩ : ∃ j, k = j + 5 := ⟨k - 5, by omega⟩
  have hl := addT_len off
  unfold told_offset.f
  have hsz : (⟨(addT off).toArray⟩ : ByteArray).size = (addT off).length := ba_size _; rw [if_neg (by rw [ByteArray.toList_eq]; unfold addT; simp), if_pos (by rw [hsz]; omega)]
  generalize hc : (if off < 0 then (45 : UInt8) else 43) = c
  generalize hn : (if off < 0 then -off else off) = n
  have ea : addT off = c :: tailT n := by unfold addT; rw [hc, hn]
  have n0 : 0 ≤ n ∧ n ≤ 86399 := by rw [← hn]; split <;> omega
  have ex : ((⟨(addT off).toArray⟩ : ByteArray).extract 1 (⟨(addT off).toArray⟩ : ByteArray).size) = ⟨(tailT n).toArray⟩ := by
    rw [ea]; apply ByteArray.ext; simp [ByteArray.size]
  rw [ex, split_f 58 _ (by rw [ba_size, tailT_len]; split <;> omega), pieces_eq 58 _ _ (split_tail n)]; simp only [Option.bind_some]
  have res : (if c = 45 then wrap64 (-n) else n) = off := by
    by_cases g : off < 0
    · rw [if_pos g] at hc hn; rw [if_pos hc.symm, wid (by omega) (by omega)]; omega
    · rw [if_neg g] at hc hn; rw [if_neg (by rw [← hc]; decide)]; omega
  by_cases z : n % 60 = 0
  · rw [if_pos z]; simp only [List.append_nil, List.map_cons, List.map_nil, List.length_cons, List.length_nil]; rw [if_neg (by decide), show decide (((0 + 1 + 1 : Nat) : Int) > 3) = false from rfl]; simp only [told_offset.j0, Bool.false_eq_true, if_false]; have s1 := toff_l_step (k + 3) ⟨(addT off).toArray⟩ 0 3600 _ [⟨(digs 2 (n / 3600)).toArray⟩, ⟨(digs 2 (n / 60 % 60)).toArray⟩] 0 _ rfl (pint8' (n / 3600) (by omega) (by omega)) (by simp); have s2 := toff_l_step (k + 2) ⟨(addT off).toArray⟩ (wrap64 (0 + wrap64 (n / 3600 * 3600))) (wrap64 (Int.tdiv 3600 60)) _ [⟨(digs 2 (n / 3600)).toArray⟩, ⟨(digs 2 (n / 60 % 60)).toArray⟩] 1 _ rfl (pint8' (n / 60 % 60) (by omega) (by omega)) (by simp); have s3 := toff_l_end (k + 1) ⟨(addT off).toArray⟩ (wrap64 (wrap64 (0 + wrap64 (n / 3600 * 3600)) + wrap64 (n / 60 % 60 * wrap64 (Int.tdiv 3600 60)))) (wrap64 (Int.tdiv (wrap64 (Int.tdiv 3600 60)) 60)) [⟨(digs 2 (n / 3600)).toArray⟩, ⟨(digs 2 (n / 60 % 60)).toArray⟩] c (tailT n) (by rw [ea])
    refine s1.trans (s2.trans (s3.trans ?_))
    have e60 : wrap64 (Int.tdiv 3600 60) = 60 := by decide +kernel
    rw [e60, wid (x := n / 3600 * 3600) (by omega) (by omega), wid (x := n / 60 % 60 * 60) (by omega) (by omega), wid (x := 0 + n / 3600 * 3600) (by omega) (by omega), wid (x := 0 + n / 3600 * 3600 + n / 60 % 60 * 60) (by omega) (by omega)]; rw [show 0 + n / 3600 * 3600 + n / 60 % 60 * 60 = n by omega, res]
  · rw [if_neg z]; simp only [List.cons_append, List.nil_append, List.map_cons, List.map_nil, List.length_cons, List.length_nil]; rw [if_neg (by decide), show decide (((0 + 1 + 1 + 1 : Nat) : Int) > 3) = false from rfl]; simp only [told_offset.j0, Bool.false_eq_true, if_false]; have s1 := toff_l_step (k + 3) ⟨(addT off).toArray⟩ 0 3600 _ [⟨(digs 2 (n / 3600)).toArray⟩, ⟨(digs 2 (n / 60 % 60)).toArray⟩, ⟨(digs 2 (n % 60)).toArray⟩] 0 _ rfl (pint8' (n / 3600) (by omega) (by omega)) (by simp); have s2 := toff_l_step (k + 2) ⟨(addT off).toArray⟩ (wrap64 (0 + wrap64 (n / 3600 * 3600))) (wrap64 (Int.tdiv 3600 60)) _ [⟨(digs 2 (n / 3600)).toArray⟩, ⟨(digs 2 (n / 60 % 60)).toArray⟩, ⟨(digs 2 (n % 60)).toArray⟩] 1 _ rfl (pint8' (n / 60 % 60) (by omega) (by omega)) (by simp); have s3 := toff_l_step (k + 1) ⟨(addT off).toArray⟩ (wrap64 (wrap64 (0 + wrap64 (n / 3600 * 3600)) + wrap64 (n / 60 % 60 * wrap64 (Int.tdiv 3600 60)))) (wrap64 (Int.tdiv (wrap64 (Int.tdiv 3600 60)) 60)) _ [⟨(digs 2 (n / 3600)).toArray⟩, ⟨(digs 2 (n / 60 % 60)).toArray⟩, ⟨(digs 2 (n % 60)).toArray⟩] 2 _ rfl (pint8' (n % 60) (by omega) (by omega)) (by simp); have s4 := toff_l_end k ⟨(addT off).toArray⟩ (wrap64 (wrap64 (wrap64 (0 + wrap64 (n / 3600 * 3600)) + wrap64 (n / 60 % 60 * wrap64 (Int.tdiv 3600 60))) + wrap64 (n % 60 * wrap64 (Int.tdiv (wrap64 (Int.tdiv 3600 60)) 60)))) (wrap64 (Int.tdiv (wrap64 (Int.tdiv (wrap64 (Int.tdiv 3600 60)) 60)) 60)) [⟨(digs 2 (n / 3600)).toArray⟩, ⟨(digs 2 (n / 60 % 60)).toArray⟩, ⟨(digs 2 (n % 60)).toArray⟩] c (tailT n) (by rw [ea])
    refine s1.trans (s2.trans (s3.trans (s4.trans ?_)))
    have e60 : wrap64 (Int.tdiv 3600 60) = 60 := by decide +kernel
    have e1 : wrap64 (Int.tdiv 60 60) = 1 := by decide +kernel
    rw [e60, e1, wid (x := n / 3600 * 3600) (by omega) (by omega), wid (x := n / 60 % 60 * 60) (by omega) (by omega), wid (x := n % 60 * 1) (by omega) (by omega), wid (x := 0 + n / 3600 * 3600) (by omega) (by omega), wid (x := 0 + n / 3600 * 3600 + n / 60 % 60 * 60) (by omega) (by omega), wid (x := 0 + n / 3600 * 3600 + n / 60 % 60 * 60 + n % 60 * 1) (by omega) (by omega)]; rw [show 0 + n / 3600 * 3600 + n / 60 % 60 * 60 + n % 60 * 1 = n by omega, res]
end Go.Proofs.YtfjifhkgifefeaaGreatDoor.CivP
end

section
/- What the document's offset answers: just what is added, told so. -/
namespace Go.Proofs.YtfjifhkgifefeaaGreatDoor.CivP
open Go.RowKit Go.Proofs.YtfjifhkgifefeaaGreatDoor.PA Go.Proofs.YtfjifhkgifefeaaGreatDoor.PT Go.Proofs.YtfjifhkgifefeaaGreatDoor.CivM Go.Proofs.YtfjifhkgifefeaaGreatDoor.StrM Go.Proofs.YtfjifhkgifefeaaGreatDoor.Giv Go.Proofs.YtfjifhkgifefeaaGreatDoorW.PrintWords
theorem roff_j2 (k : Nat) (c : UInt8) (t : List UInt8) (h m n : Int) (h0 : 0 ≤ h) (h1 : h ≤ 23) (m0 : 0 ≤ m) (m1 : m ≤ 59) (n0 : 0 ≤ n) (n1 : n ≤ 59) :
    fuseeref43_offset.j2 (k + 1) ⟨(c :: t).toArray⟩ h m n false = some (if c = 45 then (-(3600 * h + 60 * m + n), decide (3600 * h + 60 * m + n > 0)) else (3600 * h + 60 * m + n, true)) := by
  simp only [fuseeref43_offset.j2]; rw [if_neg (by simp), if_pos (by rw [ba_size]; simp), wid (x := 3600 * h) (by omega) (by omega), wid (x := 60 * m) (by omega) (by omega), wid (x := 3600 * h + 60 * m) (by omega) (by omega), wid (x := 3600 * h + 60 * m + n) (by omega) (by omega), wid (by omega) (by omega)]; rw [bt_eq (c :: t) [] t c rfl 0 rfl]
  by_cases g : c = 45
  · rw [if_pos g, if_pos (by rw [g]; rfl)]
  · rw [if_neg g, if_neg]
    intro e
    exact g (UInt8.toNat_inj.1 (by have : (45 : UInt8).toNat = 45 := rfl; omega))
theorem roff_j1 (k : Nat) (c : UInt8) (t : List UInt8) (h m n : Int) :
    fuseeref43_offset.j1 (k + 2) ⟨(c :: t).toArray⟩ h m n = some (if 0 ≤ h ∧ h ≤ 23 ∧ 0 ≤ m ∧ m ≤ 59 ∧ 0 ≤ n ∧ n ≤ 59 then (if c = 45 then (-(3600 * h + 60 * m + n), decide (3600 * h + 60 * m + n > 0)) else (3600 * h + 60 * m + n, true)) else (0, false)) := by
  have J : fuseeref43_offset.j2 (k + 1) ⟨(c :: t).toArray⟩ h m n true = some (0, false) := by simp [fuseeref43_offset.j2]
  simp only [fuseeref43_offset.j1]
  by_cases a1 : h < 0
  · rw [if_pos a1, J, if_neg (by omega)]
  · rw [if_neg a1]
    by_cases a2 : h > 23
    · rw [if_pos a2, J, if_neg (by omega)]
    · rw [if_neg a2]
      by_cases a3 : m < 0
      · rw [if_pos a3, J, if_neg (by omega)]
      · rw [if_neg a3]
        by_cases a4 : m > 59
        · rw [if_pos a4, J, if_neg (by omega)]
        · rw [if_neg a4]
          by_cases a5 : n < 0
          · rw [if_pos a5, J, if_neg (by omega)]
          · rw [if_neg a5]
            by_cases a6 : n > 59
            · rw [decide_eq_true a6, J, if_neg (by omega)]
            · rw [decide_eq_false a6, roff_j2 k c t h m n (by omega) (by omega) (by omega) (by omega) (by omega) (by omega)]
              exact congrArg some (if_pos ⟨by omega, by omega, by omega, by omega, by omega, by omega⟩).symm
theorem rdigs' (k : Nat) (l : List UInt8) (hk : 10 ≤ k) (hl : l.length ≤ 9) : fuseeref07_Digits.f k ⟨l.toArray⟩ = some (rd l) := by
  rw [rdigs k _ hk (by rw [ba_size]; exact hl)]; rfl
def offOf (c : UInt8) (h m n : Int) : Int × Bool := if 0 ≤ h ∧ h ≤ 23 ∧ 0 ≤ m ∧ m ≤ 59 ∧ 0 ≤ n ∧ n ≤ 59 then (if c = 45 then (-(3600 * h + 60 * m + n), decide (3600 * h + 60 * m + n > 0)) else (3600 * h + 60 * m + n, true)) else (0, false)
theorem roff6 (k : Nat) (hk : 20 ≤ k) (c a1 a2 p b1 b2 : UInt8) : fuseeref43_offset.f k ⟨([c, a1, a2, p, b1, b2] : List UInt8).toArray⟩ = some (if (c = 43 ∨ c = 45) ∧ p = 58 then offOf c (rd [a1, a2]) (rd [b1, b2]) 0 else (0, false)) := by
  obtain ⟨k, rfl⟩ : ∃ j, k = j + 3 := ⟨k - 3, by omega⟩
  have hs : (((⟨([c, a1, a2, p, b1, b2] : List UInt8).toArray⟩ : ByteArray).size : Nat) : Int) = 6 := by rw [ba_size]; rfl
  have N : ∀ (x : UInt8) (u : Nat), u < 256 → (((x.toNat : Nat) : Int) = (u : Int) ↔ x = UInt8.ofNat u) := fun x u hu => by
    constructor
    · intro e; apply UInt8.toNat_inj.1; rw [UInt8.toNat_ofNat_of_lt' (by show u < 256; exact hu)]; omega
    · intro e; rw [e, UInt8.toNat_ofNat_of_lt' (by show u < 256; exact hu)]
  have b0 : bt (⟨([c, a1, a2, p, b1, b2] : List UInt8).toArray⟩ : ByteArray) 0 = c.toNat := bt_eq _ [] _ c rfl 0 rfl; have b3 : bt (⟨([c, a1, a2, p, b1, b2] : List UInt8).toArray⟩ : ByteArray) 3 = p.toNat := bt_eq _ [c, a1, a2] _ p rfl 3 rfl
  have T : fuseeref43_offset.j0 (k + 3) ⟨([c, a1, a2, p, b1, b2] : List UInt8).toArray⟩ true = some (0, false) := by simp [fuseeref43_offset.j0]
  have F : fuseeref43_offset.j0 (k + 3) ⟨([c, a1, a2, p, b1, b2] : List UInt8).toArray⟩ false = some (offOf c (rd [a1, a2]) (rd [b1, b2]) 0) := by
    simp only [fuseeref43_offset.j0]; rw [if_neg (by simp), if_pos (by decide), if_pos (by omega)]
    have e1 : (⟨([c, a1, a2, p, b1, b2] : List UInt8).toArray⟩ : ByteArray).extract 1 3 = ⟨([a1, a2] : List UInt8).toArray⟩ := by apply ByteArray.ext; simp
    have e2 : (⟨([c, a1, a2, p, b1, b2] : List UInt8).toArray⟩ : ByteArray).extract 4 6 = ⟨([b1, b2] : List UInt8).toArray⟩ := by apply ByteArray.ext; simp
    rw [e1, rdigs' _ _ (by omega) (by simp)]; simp only [Option.bind_some]; rw [if_pos (by decide), if_pos (by omega), e2, rdigs' _ _ (by omega) (by simp)]; simp only [Option.bind_some]; rw [if_neg (by omega), roff_j1]
    rfl
  unfold fuseeref43_offset.f
  rw [if_pos hs, if_pos (by omega), b0, b3]; have n43 : ((c.toNat : Nat) : Int) = 43 ↔ c = 43 := N c 43 (by omega); have n45 : ((c.toNat : Nat) : Int) = 45 ↔ c = 45 := N c 45 (by omega); have n58 : ((p.toNat : Nat) : Int) = 58 ↔ p = 58 := N p 58 (by omega)
  by_cases g1 : ((c.toNat : Nat) : Int) = 43
  · have g1' := n43.1 g1; rw [if_pos g1, if_pos (by omega)]
    by_cases g2 : ((p.toNat : Nat) : Int) = 58
    · rw [if_pos g2, if_neg (by omega), F, if_pos ⟨.inl g1', n58.1 g2⟩]
    · rw [if_neg g2, T, if_neg (fun h => g2 (n58.2 h.2))]
  · rw [if_neg g1]
    by_cases g3 : ((c.toNat : Nat) : Int) = 45
    · have g3' := n45.1 g3; rw [if_pos g3, if_pos (by omega)]
      by_cases g2 : ((p.toNat : Nat) : Int) = 58
      · rw [if_pos g2, if_neg (by omega), F, if_pos ⟨.inr g3', n58.1 g2⟩]
      · rw [if_neg g2, T, if_neg (fun h => g2 (n58.2 h.2))]
    · rw [if_neg g3, T, if_neg (fun h => h.1.elim (fun e => g1 (n43.2 e)) (fun e => g3 (n45.2 e)))]
theorem roff9 (k : Nat) (hk : 20 ≤ k) (c a1 a2 p b1 b2 q d1 d2 : UInt8) : fuseeref43_offset.f k ⟨([c, a1, a2, p, b1, b2, q, d1, d2] : List UInt8).toArray⟩ = some (if (c = 43 ∨ c = 45) ∧ p = 58 ∧ q = 58 then (if rd [d1, d2] = 0 then (0, false) else offOf c (rd [a1, a2]) (rd [b1, b2]) (rd [d1, d2])) else (0, false)) := by
  obtain ⟨k, rfl⟩ : ∃ j, k = j + 3 := ⟨k - 3, by omega⟩
  have hs : (((⟨([c, a1, a2, p, b1, b2, q, d1, d2] : List UInt8).toArray⟩ : ByteArray).size : Nat) : Int) = 9 := by rw [ba_size]; rfl
  have N : ∀ (x : UInt8) (u : Nat), u < 256 → (((x.toNat : Nat) : Int) = (u : Int) ↔ x = UInt8.ofNat u) := fun x u hu => by
    constructor
    · intro e; apply UInt8.toNat_inj.1; rw [UInt8.toNat_ofNat_of_lt' (by show u < 256; exact hu)]; omega
    · intro e; rw [e, UInt8.toNat_ofNat_of_lt' (by show u < 256; exact hu)]
  have b0 : bt (⟨([c, a1, a2, p, b1, b2, q, d1, d2] : List UInt8).toArray⟩ : ByteArray) 0 = c.toNat := bt_eq _ [] _ c rfl 0 rfl; have b3 : bt (⟨([c, a1, a2, p, b1, b2, q, d1, d2] : List UInt8).toArray⟩ : ByteArray) 3 = p.toNat := bt_eq _ [c, a1, a2] _ p rfl 3 rfl; have b6 : bt (⟨([c, a1, a2, p, b1, b2, q, d1, d2] : List UInt8).toArray⟩ : ByteArray) 6 = q.toNat := bt_eq _ [c, a1, a2, p, b1, b2] _ q rfl 6 rfl
  have T : fuseeref43_offset.j0 (k + 3) ⟨([c, a1, a2, p, b1, b2, q, d1, d2] : List UInt8).toArray⟩ true = some (0, false) := by simp [fuseeref43_offset.j0]
  have F : fuseeref43_offset.j0 (k + 3) ⟨([c, a1, a2, p, b1, b2, q, d1, d2] : List UInt8).toArray⟩ false = some (if rd [d1, d2] = 0 then (0, false) else offOf c (rd [a1, a2]) (rd [b1, b2]) (rd [d1, d2])) := by
    simp only [fuseeref43_offset.j0]; rw [if_neg (by simp), if_pos (by decide), if_pos (by omega)]
    have e1 : (⟨([c, a1, a2, p, b1, b2, q, d1, d2] : List UInt8).toArray⟩ : ByteArray).extract 1 3 = ⟨([a1, a2] : List UInt8).toArray⟩ := by apply ByteArray.ext; simp
    have e2 : (⟨([c, a1, a2, p, b1, b2, q, d1, d2] : List UInt8).toArray⟩ : ByteArray).extract 4 6 = ⟨([b1, b2] : List UInt8).toArray⟩ := by apply ByteArray.ext; simp
    have e3 : (⟨([c, a1, a2, p, b1, b2, q, d1, d2] : List UInt8).toArray⟩ : ByteArray).extract 7 9 = ⟨([d1, d2] : List UInt8).toArray⟩ := by apply ByteArray.ext; simp
    rw [e1, rdigs' _ _ (by omega) (by simp)]; simp only [Option.bind_some]; rw [if_pos (by decide), if_pos (by omega), e2, rdigs' _ _ (by omega) (by simp)]; simp only [Option.bind_some]; rw [if_pos hs, if_pos (by decide), if_pos (by omega), e3, rdigs' _ _ (by omega) (by simp)]; simp only [Option.bind_some]
    by_cases z : rd [d1, d2] = 0
    · rw [if_pos z, if_pos z]
    · rw [if_neg z, if_neg z, roff_j1]; rfl
  unfold fuseeref43_offset.f
  rw [if_neg (by omega), if_pos hs, if_pos (by omega), b0, b3, b6]; have n43 : ((c.toNat : Nat) : Int) = 43 ↔ c = 43 := N c 43 (by omega); have n45 : ((c.toNat : Nat) : Int) = 45 ↔ c = 45 := N c 45 (by omega); have n58 : ((p.toNat : Nat) : Int) = 58 ↔ p = 58 := N p 58 (by omega); have m58 : ((q.toNat : Nat) : Int) = 58 ↔ q = 58 := N q 58 (by omega)
  have Q : fuseeref43_offset.j0 (k + 3) ⟨([c, a1, a2, p, b1, b2, q, d1, d2] : List UInt8).toArray⟩ (((q.toNat : Nat) : Int) != 58) = some (if q = 58 then (if rd [d1, d2] = 0 then (0, false) else offOf c (rd [a1, a2]) (rd [b1, b2]) (rd [d1, d2])) else (0, false)) := by
    by_cases g : ((q.toNat : Nat) : Int) = 58
    · rw [show (((q.toNat : Nat) : Int) != 58) = false by simp [g], F, if_pos (m58.1 g)]
    · rw [show (((q.toNat : Nat) : Int) != 58) = true by simpa using g, T, if_neg (fun h => g (m58.2 h))]
  by_cases g1 : ((c.toNat : Nat) : Int) = 43
  · have g1' := n43.1 g1; rw [if_pos g1, if_pos (by omega)]
    by_cases g2 : ((p.toNat : Nat) : Int) = 58
    · rw [if_pos g2, if_pos (by omega), Q]
      by_cases g4 : q = 58
      · rw [if_pos g4]; exact congrArg some (if_pos ⟨.inl g1', n58.1 g2, g4⟩).symm
      · rw [if_neg g4, if_neg (fun h => g4 h.2.2)]
    · rw [if_neg g2, T, if_neg (fun h => g2 (n58.2 h.2.1))]
  · rw [if_neg g1]
    by_cases g3 : ((c.toNat : Nat) : Int) = 45
    · have g3' := n45.1 g3; rw [if_pos g3, if_pos (by omega)]
      by_cases g2 : ((p.toNat : Nat) : Int) = 58
      · rw [if_pos g2, if_pos (by omega), Q]
        by_cases g4 : q = 58
        · rw [if_pos g4]; exact congrArg some (if_pos ⟨.inr g3', n58.1 g2, g4⟩).symm
        · rw [if_neg g4, if_neg (fun h => g4 h.2.2)]
      · rw [if_neg g2, T, if_neg (fun h => g2 (n58.2 h.2.1))]
    · rw [if_neg g3, T, if_neg (fun h => h.1.elim (fun e => g1 (n43.2 e)) (fun e => g3 (n45.2 e)))]
theorem roff_else (k : Nat) (hk : 20 ≤ k) (s : ByteArray) (h6 : s.size ≠ 6) (h9 : s.size ≠ 9) : fuseeref43_offset.f k s = some (0, false) := by
  obtain ⟨k, rfl⟩ : ∃ j, k = j + 3 := ⟨k - 3, by omega⟩
  unfold fuseeref43_offset.f
  rw [if_neg (by omega), if_neg (by omega)]
  simp [fuseeref43_offset.j0]
theorem offOf_true {c : UInt8} (hc : c = 43 ∨ c = 45) {h m n : Int} (t : (offOf c h m n).2 = true) :
    (0 ≤ h ∧ h ≤ 23 ∧ 0 ≤ m ∧ m ≤ 59 ∧ 0 ≤ n ∧ n ≤ 59) ∧ -86399 ≤ (offOf c h m n).1 ∧ (offOf c h m n).1 ≤ 86399 ∧ addT (offOf c h m n).1 = c :: tailT (3600 * h + 60 * m + n) := by
  unfold offOf at t ⊢
  by_cases b : 0 ≤ h ∧ h ≤ 23 ∧ 0 ≤ m ∧ m ≤ 59 ∧ 0 ≤ n ∧ n ≤ 59
  · rw [if_pos b] at t ⊢
    refine ⟨b, ?_⟩
    by_cases g : c = 45
    · rw [if_pos g] at t ⊢
      have t' : 3600 * h + 60 * m + n > 0 := by simpa using t
      refine ⟨by show _ ≤ -(3600 * h + 60 * m + n); omega, by show -(3600 * h + 60 * m + n) ≤ _; omega, ?_⟩
      show addT (-(3600 * h + 60 * m + n)) = _
      unfold addT
      rw [if_pos (by omega), if_pos (by omega), g, Int.neg_neg]
    · rw [if_neg g]; have g' := hc.resolve_right g
      refine ⟨by show _ ≤ (3600 * h + 60 * m + n); omega, by show (3600 * h + 60 * m + n) ≤ _; omega, ?_⟩
      show addT (3600 * h + 60 * m + n) = _
      unfold addT
      rw [if_neg (by omega), if_neg (by omega), g']
  · rw [if_neg b] at t; simp at t
theorem roff_any (k : Nat) (hk : 20 ≤ k) (s : ByteArray) : ∃ r b, fuseeref43_offset.f k s = some (r, b) ∧ (b = true → -86399 ≤ r ∧ r ≤ 86399 ∧ s.data.toList = addT r) := by
  by_cases h6 : s.size = 6
  · obtain ⟨⟨l⟩⟩ := s; have hl : l.length = 6 := h6
    match l, hl with
    | [c, a1, a2, p, b1, b2], _ =>
      rw [show (⟨⟨[c, a1, a2, p, b1, b2]⟩⟩ : ByteArray) = ⟨([c, a1, a2, p, b1, b2] : List UInt8).toArray⟩ from rfl, roff6 k hk]
      by_cases g : (c = 43 ∨ c = 45) ∧ p = 58
      · rw [if_pos g]
        refine ⟨(offOf c (rd [a1, a2]) (rd [b1, b2]) 0).1, (offOf c (rd [a1, a2]) (rd [b1, b2]) 0).2, rfl, fun t => ?_⟩
        obtain ⟨⟨h0, h1, m0, m1, -, -⟩, r0, r1, e⟩ := offOf_true g.1 t
        refine ⟨r0, r1, ?_⟩
        rw [e]; have d1 := digs_rd [a1, a2] h0; have d2 := digs_rd [b1, b2] m0
        have q0 : (3600 * rd [a1, a2] + 60 * rd [b1, b2] + 0) / 3600 = rd [a1, a2] := by omega
        have q1 : (3600 * rd [a1, a2] + 60 * rd [b1, b2] + 0) / 60 % 60 = rd [b1, b2] := by omega
        have q2 : (3600 * rd [a1, a2] + 60 * rd [b1, b2] + 0) % 60 = 0 := by omega
        unfold tailT
        rw [q0, q1, if_pos q2, g.2]; have d1' : digs 2 (rd [a1, a2]) = [a1, a2] := d1; have d2' : digs 2 (rd [b1, b2]) = [b1, b2] := d2; rw [d1', d2']; rfl
      · rw [if_neg g]; exact ⟨_, _, rfl, fun t => by simp at t⟩
  · by_cases h9 : s.size = 9
    · obtain ⟨⟨l⟩⟩ := s; have hl : l.length = 9 := h9
      match l, hl with
      | [c, a1, a2, p, b1, b2, q, d1, d2], _ =>
        rw [show (⟨⟨[c, a1, a2, p, b1, b2, q, d1, d2]⟩⟩ : ByteArray) = ⟨([c, a1, a2, p, b1, b2, q, d1, d2] : List UInt8).toArray⟩ from rfl, roff9 k hk]
        by_cases g : (c = 43 ∨ c = 45) ∧ p = 58 ∧ q = 58
        · rw [if_pos g]
          by_cases z : rd [d1, d2] = 0
          · rw [if_pos z]; exact ⟨_, _, rfl, fun t => by simp at t⟩
          · rw [if_neg z]
            refine ⟨(offOf c (rd [a1, a2]) (rd [b1, b2]) (rd [d1, d2])).1, (offOf c (rd [a1, a2]) (rd [b1, b2]) (rd [d1, d2])).2, rfl, fun t => ?_⟩
            obtain ⟨⟨h0, h1, m0, m1, n0, n1⟩, r0, r1, e⟩ := offOf_true g.1 t
            refine ⟨r0, r1, ?_⟩
            rw [e]
            have q0 : (3600 * rd [a1, a2] + 60 * rd [b1, b2] + rd [d1, d2]) / 3600 = rd [a1, a2] := by omega
            have q1 : (3600 * rd [a1, a2] + 60 * rd [b1, b2] + rd [d1, d2]) / 60 % 60 = rd [b1, b2] := by omega
            have q2 : (3600 * rd [a1, a2] + 60 * rd [b1, b2] + rd [d1, d2]) % 60 = rd [d1, d2] := by omega
            unfold tailT
            rw [q0, q1, q2, if_neg z, g.2.1, g.2.2]; have e1 : digs 2 (rd [a1, a2]) = [a1, a2] := digs_rd [a1, a2] h0; have e2 : digs 2 (rd [b1, b2]) = [b1, b2] := digs_rd [b1, b2] m0; have e3 : digs 2 (rd [d1, d2]) = [d1, d2] := digs_rd [d1, d2] n0; rw [e1, e2, e3]; rfl
        · rw [if_neg g]; exact ⟨_, _, rfl, fun t => by simp at t⟩
    · rw [roff_else k hk s h6 h9]; exact ⟨_, _, rfl, fun t => by simp at t⟩
theorem roff_add (k : Nat) (hk : 20 ≤ k) (off : Int) (h0 : -86399 ≤ off) (h1 : off ≤ 86399) : fuseeref43_offset.f k ⟨(addT off).toArray⟩ = some (off, true) := by
  generalize hc : (if off < 0 then (45 : UInt8) else 43) = c
  generalize hn : (if off < 0 then -off else off) = n
  have ea : addT off = c :: tailT n := by unfold addT; rw [hc, hn]
  have n0 : 0 ≤ n ∧ n ≤ 86399 := by rw [← hn]; split <;> omega
  have c2 : c = 43 ∨ c = 45 := by rw [← hc]; split <;> simp
  have R : ∀ x : Int, 0 ≤ x → x ≤ 99 → rd [dg (x / 10), dg (x % 10)] = x := fun x a b => by
    rw [← digs2_eq x a b]; exact rd_digs 2 x a (by show x < (100 : Int); omega)
  have res : ∀ h m z : Int, 0 ≤ h → h ≤ 23 → 0 ≤ m → m ≤ 59 → 0 ≤ z → z ≤ 59 → n = 3600 * h + 60 * m + z → offOf c h m z = (off, true) := by
    intro h m z a1 a2 a3 a4 a5 a6 e
    unfold offOf
    rw [if_pos ⟨a1, a2, a3, a4, a5, a6⟩, ← e]
    by_cases g : off < 0
    · rw [if_pos g] at hc hn; rw [if_pos hc.symm, decide_eq_true (by omega)]; congr 1; omega
    · rw [if_neg g] at hc hn; rw [if_neg (by rw [← hc]; decide)]; congr 1; omega
  rw [ea]
  unfold tailT
  rw [digs2_eq _ (by omega) (by omega), digs2_eq (n / 60 % 60) (by omega) (by omega)]
  by_cases z : n % 60 = 0
  · rw [if_pos z]; have h := roff6 k hk c (dg (n / 3600 / 10)) (dg (n / 3600 % 10)) 58 (dg (n / 60 % 60 / 10)) (dg (n / 60 % 60 % 10)); rw [if_pos ⟨c2, rfl⟩, R _ (by omega) (by omega), R _ (by omega) (by omega), res _ _ _ (by omega) (by omega) (by omega) (by omega) (by omega) (by omega) (by omega)] at h
    exact h
  · rw [if_neg z, digs2_eq (n % 60) (by omega) (by omega)]; have h := roff9 k hk c (dg (n / 3600 / 10)) (dg (n / 3600 % 10)) 58 (dg (n / 60 % 60 / 10)) (dg (n / 60 % 60 % 10)) 58 (dg (n % 60 / 10)) (dg (n % 60 % 10)); rw [if_pos ⟨c2, rfl, rfl⟩, R _ (by omega) (by omega), R _ (by omega) (by omega), R _ (by omega) (by omega), if_neg z, res _ _ _ (by omega) (by omega) (by omega) (by omega) (by omega) (by omega) (by omega)] at h
    exact h
end Go.Proofs.YtfjifhkgifefeaaGreatDoor.CivP
end

section
/- told.Parse and the document's Parse answer alike of every text. -/
namespace Go.Proofs.YtfjifhkgifefeaaGreatDoor.CivP
open Go.RowKit Go.Proofs.YtfjifhkgifefeaaGreatDoor.PA Go.Proofs.YtfjifhkgifefeaaGreatDoor.PT Go.Proofs.YtfjifhkgifefeaaGreatDoor.CivM Go.Proofs.YtfjifhkgifefeaaGreatDoor.StrM Go.Proofs.YtfjifhkgifefeaaGreatDoor.Giv Go.Proofs.YtfjifhkgifefeaaGreatDoorW.PrintWords
theorem nmul (k : Nat) (a : Int) : num_Mul.f (k + 1) a 1000000000 = some (if wrap64 (Int.tdiv (wrap64 (a * 1000000000)) 1000000000) = a then (wrap64 (a * 1000000000), none) else (0, some 2)) := by
  unfold num_Mul.f
  by_cases z : a = 0
  · rw [if_pos z]; subst z; simp only [num_Mul.j0]; rw [if_pos trivial]
    decide +kernel
  · rw [if_neg z, show ((1000000000 : Int) == 0) = false from rfl]; simp only [num_Mul.j0, Bool.false_eq_true, if_false]
    by_cases c : a = -1
    · rw [if_pos c, if_neg (by decide), if_neg (by decide), if_neg (by decide)]
      split <;> rfl
    · rw [if_neg c, if_neg (by decide), if_neg (by decide)]
      split <;> rfl
theorem nmul_ok (k : Nat) (a : Int) (h0 : -9223372036 ≤ a) (h1 : a ≤ 9223372035) : num_Mul.f (k + 1) a 1000000000 = some (a * 1000000000, none) := by
  rw [nmul, wid (x := a * 1000000000) (by omega) (by omega), Int.mul_tdiv_cancel _ (by omega), wid (by omega) (by omega), if_pos rfl]
theorem addsat (a b : Int) (ha : i64 a) (hb : 0 ≤ b) (hb2 : b ≤ 9223372036854775807) : num_AddSat.f a b = some (if a + b ≤ 9223372036854775807 then a + b else 9223372036854775807) := by
  unfold i64 at ha
  unfold num_AddSat.f
  rw [add_ok ha.1 ha.2 hb hb2]; simp only [Option.bind_some]
  by_cases c : a + b ≤ 9223372036854775807
  · simp only [if_pos c, Option.isNone_none, if_true]
  · simp only [if_neg c, Option.isNone_some, Bool.false_eq_true, if_false]; rw [decide_eq_false (by omega)]
    rfl
def IsMom (l : List UInt8) (N off : Int) : Prop := may43 N off ∧ ∃ y m d, vld y m d ∧ num y m d = dayT N off ∧ l = stext y m d (secT N off) (N % 1000000000) ++ addT off
theorem secT_bd (a b : Int) : 0 ≤ secT a b ∧ secT a b ≤ 86399 := by unfold secT; omega
theorem cut29 (A B : List UInt8) (h : A.length = 29) : (⟨(A ++ B).toArray⟩ : ByteArray).extract 0 29 = ⟨A.toArray⟩ ∧ (⟨(A ++ B).toArray⟩ : ByteArray).extract 29 (⟨(A ++ B).toArray⟩ : ByteArray).size = ⟨B.toArray⟩ := by
  constructor
  · exact ext_eq _ [] A B rfl 0 29 rfl (by simp [h])
  · refine ext_eq _ A B [] (by simp) 29 _ h.symm (by rw [ba_size, List.length_append])
theorem tparse_ok (k : Nat) (hk : 30 ≤ k) (l : List UInt8) (N off : Int) (h : IsMom l N off) : told_Parse.f k ⟨l.toArray⟩ = some (N, off, none) := by
  obtain ⟨k, rfl⟩ : ∃ j, k = j + 2 := ⟨k - 2, by omega⟩
  obtain ⟨hm, y, m, d, v, hn, rfl⟩ := h; have hb := secT_bd N off; have hd := dayT_bd N off hm; have hm' := hm
  unfold may43 at hm'
  have hl : (stext y m d (secT N off) (N % 1000000000)).length = 29 := stext_len v; have la := addT_len off; obtain ⟨e1, e2⟩ := cut29 (stext y m d (secT N off) (N % 1000000000)) (addT off) hl
  unfold told_Parse.f
  rw [if_neg (by rw [ba_size, List.length_append, hl]; omega), if_pos (by decide), if_pos (by rw [ba_size, List.length_append, hl]; omega), e1, e2]; rw [dparse_ok (k + 2) y m d (secT N off) (N % 1000000000) (by omega) v (by omega) (by omega) (by omega) (by omega), toff_add (k + 2) off (by omega) (by omega) (by omega)]; simp only [Option.bind_some, Option.isNone_none, if_true, Bool.not_true, told_Parse.j0, Bool.false_eq_true, if_false]; rw [hn, wid (x := dayT N off * 86400) (by omega) (by omega), wid (x := dayT N off * 86400 + secT N off) (by omega) (by omega), wid (x := dayT N off * 86400 + secT N off - off) (by omega) (by omega)]; rw [show dayT N off * 86400 + secT N off - off = N / 1000000000 by unfold dayT secT; omega, nmul_ok k _ (by omega) (by omega)]; simp only [Option.bind_some, Option.isNone_none, if_true]; rw [addsat _ _ (by unfold i64; omega) (by omega) (by omega), if_pos (by omega), show N / 1000000000 * 1000000000 + N % 1000000000 = N by omega]; simp only [Option.bind_some]; obtain ⟨y', m', d', v', hn', e⟩ := ttext_ok (k + 1) (by omega) N off hm; obtain ⟨rfl, rfl, rfl⟩ := num_inj v' v (by rw [hn, hn']); rw [e]; simp only [Option.bind_some, Option.isNone_none, if_true]
theorem tparse_no (k : Nat) (hk : 30 ≤ k) (l : List UInt8) (hl : l.length ≤ 100) (h : ∀ N off, ¬ IsMom l N off) : told_Parse.f k ⟨l.toArray⟩ = some (0, 0, some 3) := by
  obtain ⟨k, rfl⟩ : ∃ j, k = j + 2 := ⟨k - 2, by omega⟩
  unfold told_Parse.f
  by_cases c : l.length < 29
  · rw [if_pos (by rw [ba_size]; omega)]
  rw [if_neg (by rw [ba_size]; omega), if_pos (by decide), if_pos (by rw [ba_size]; omega)]; have e0 : l = l.take 29 ++ l.drop 29 := (List.take_append_drop 29 l).symm
  have lt : (l.take 29).length = 29 := by rw [List.length_take]; omega
  obtain ⟨e1, e2⟩ := cut29 (l.take 29) (l.drop 29) lt; rw [← e0] at e1 e2; rw [e1, e2]; obtain ⟨o, b, ho, eo⟩ := toff_some (k + 2) ⟨(l.drop 29).toArray⟩ (by rw [ba_size, List.length_drop]; omega) (by omega)
  have J : ∀ x4 x5 x6 x8 : Int, told_Parse.j0 (k + 2) ⟨l.toArray⟩ x4 x5 x6 x8 true = some (0, 0, some 3) := fun _ _ _ _ => by simp [told_Parse.j0]
  rw [eo]
  by_cases g : ∃ y m d sec nano, IsStamp (l.take 29) y m d sec nano
  · obtain ⟨y, m, d, sec, nano, v, s0, s1, n0, n1, es⟩ := g; rw [es, dparse_ok (k + 2) y m d sec nano (by omega) v s0 s1 n0 n1]; simp only [Option.bind_some, Option.isNone_none, if_true]
    cases b with
    | false => exact J _ _ _ _
    | true =>
      simp only [Bool.not_true, told_Parse.j0, Bool.false_eq_true, if_false]; rw [nmul]
      split
      · simp only [Option.bind_some, Option.isNone_none, if_true]; have hw := i64_wrap (wrap64 (wrap64 (wrap64 (num y m d * 86400) + sec) - o) * 1000000000); rw [addsat _ _ hw n0 (by omega)]; simp only [Option.bind_some]
        generalize ht : (if wrap64 (wrap64 (wrap64 (wrap64 (num y m d * 86400) + sec) - o) * 1000000000) + nano ≤ 9223372036854775807 then wrap64 (wrap64 (wrap64 (wrap64 (num y m d * 86400) + sec) - o) * 1000000000) + nano else 9223372036854775807) = t
        have ti : -9223372036854775808 ≤ t ∧ t ≤ 9223372036854775807 := by unfold i64 at hw; rw [← ht]; split <;> omega
        unfold i64 at ho
        by_cases mm : may43 t o
        · obtain ⟨y', m', d', v', hn', e⟩ := ttext_ok (k + 1) (by omega) t o mm; rw [e]; simp only [Option.bind_some, Option.isNone_none, if_true]; rw [if_neg]
          intro q
          rw [ByteArray.toList_eq, ByteArray.toList_eq] at q
          exact h t o ⟨mm, y', m', d', v', hn', q.symm⟩
        · rw [ttext_no (k + 1) t o ti.1 ti.2 ho.1 ho.2 mm]; simp only [Option.bind_some, Option.isNone_some, Bool.false_eq_true, if_false]
      · simp only [Option.bind_some, Option.isNone_some, Bool.false_eq_true, if_false]
  · rw [dparse_no (k + 2) ⟨(l.take 29).toArray⟩ (by omega) (fun y m d sec nano q => g ⟨y, m, d, sec, nano, q⟩)]; simp only [Option.bind_some, Option.isNone_some, Bool.false_eq_true, if_false]
    exact J _ _ _ _
theorem rd8_ok (k : Nat) (hk : 20010 ≤ k) (y m d sec nano : Int) (v : vld y m d) (s0 : 0 ≤ sec) (s1 : sec ≤ 86400) (n0 : 0 ≤ nano) (n1 : nano ≤ 999999999) : fuseeref08_Parse.f k ⟨(stext y m d sec nano).toArray⟩ = some (num y m d, sec, nano, 0) := by
  obtain ⟨a, b, c, r, q, h3, h4, hq⟩ := parse_alike k ⟨(stext y m d sec nano).toArray⟩ hk; rw [dparse_ok k y m d sec nano (by omega) v s0 s1 n0 n1] at h3; simp only [Option.some.injEq, Prod.mk.injEq] at h3; obtain ⟨rfl, rfl, rfl, rfl⟩ := h3; rw [h4, ← hq]; rfl
theorem rd8_no (k : Nat) (hk : 20010 ≤ k) (s : ByteArray) (h : ∀ y m d sec nano, ¬ IsStamp s.data.toList y m d sec nano) : fuseeref08_Parse.f k s = some (0, 0, 0, 3) := by
  obtain ⟨a, b, c, r, q, h3, h4, hq⟩ := parse_alike k s hk; rw [dparse_no k s (by omega) h] at h3; simp only [Option.some.injEq, Prod.mk.injEq] at h3; obtain ⟨rfl, rfl, rfl, rfl⟩ := h3; rw [h4, ← hq]; rfl
theorem rparse43_ok (k : Nat) (hk : 20010 ≤ k) (l : List UInt8) (N off : Int) (h : IsMom l N off) : fuseeref43_Parse.f k ⟨l.toArray⟩ = some (N, off, 0) := by
  obtain ⟨k, rfl⟩ : ∃ j, k = j + 2 := ⟨k - 2, by omega⟩
  obtain ⟨hm, y, m, d, v, hn, rfl⟩ := h; have hb := secT_bd N off; have hd := dayT_bd N off hm; have hm' := hm
  unfold may43 at hm'
  have hl : (stext y m d (secT N off) (N % 1000000000)).length = 29 := stext_len v; obtain ⟨e1, e2⟩ := cut29 (stext y m d (secT N off) (N % 1000000000)) (addT off) hl
  unfold fuseeref43_Parse.f
  rw [if_neg (by rw [ba_size, List.length_append, hl]; omega), if_pos (by decide), if_pos (by rw [ba_size, List.length_append, hl]; omega), e1, e2]; rw [rd8_ok (k + 2) hk y m d _ _ v (by omega) (by omega) (by omega) (by omega), roff_add (k + 2) (by omega) off (by omega) (by omega)]; simp only [Option.bind_some, if_true]; rw [hn, if_neg (by omega), if_neg (by omega), decide_eq_false (by omega)]; simp only [fuseeref43_Parse.j0, Bool.false_eq_true, if_false]; rw [wid (x := 86400 * dayT N off) (by omega) (by omega), wid (x := 86400 * dayT N off + secT N off) (by omega) (by omega), wid (x := 86400 * dayT N off + secT N off - off) (by omega) (by omega)]; rw [show 86400 * dayT N off + secT N off - off = N / 1000000000 by unfold dayT secT; omega, wid (x := N / 1000000000 * 1000000000) (by omega) (by omega), show N / 1000000000 * 1000000000 + N % 1000000000 = N by omega, wid (by omega) (by omega), rdmay, decide_eq_true hm]; simp only [Option.bind_some, if_true]
theorem rparse43_no (k : Nat) (hk : 20010 ≤ k) (l : List UInt8) (h : ∀ N off, ¬ IsMom l N off) : fuseeref43_Parse.f k ⟨l.toArray⟩ = some (0, 0, 3) := by
  obtain ⟨k, rfl⟩ : ∃ j, k = j + 2 := ⟨k - 2, by omega⟩
  unfold fuseeref43_Parse.f
  by_cases c : l.length < 29
  · rw [if_pos (by rw [ba_size]; omega)]
  rw [if_neg (by rw [ba_size]; omega), if_pos (by decide), if_pos (by rw [ba_size]; omega)]; have e0 : l = l.take 29 ++ l.drop 29 := (List.take_append_drop 29 l).symm
  have lt : (l.take 29).length = 29 := by rw [List.length_take]; omega
  obtain ⟨e1, e2⟩ := cut29 (l.take 29) (l.drop 29) lt; rw [← e0] at e1 e2; rw [e1, e2]; obtain ⟨o, b, eo, ho⟩ := roff_any (k + 2) (by omega) ⟨(l.drop 29).toArray⟩
  have J : ∀ x4 x5 x6 x8 : Int, fuseeref43_Parse.j0 (k + 2) x4 x5 x6 x8 true = some (0, 0, 3) := fun _ _ _ _ => by simp [fuseeref43_Parse.j0]
  rw [eo]
  by_cases g : ∃ y m d sec nano, IsStamp (l.take 29) y m d sec nano
  · obtain ⟨y, m, d, sec, nano, v, s0, s1, n0, n1, es⟩ := g; rw [es, rd8_ok (k + 2) hk y m d sec nano v s0 s1 n0 n1]; simp only [Option.bind_some, if_true]
    cases b with
    | false => rw [if_neg (by simp)]; exact J _ _ _ _
    | true =>
      obtain ⟨o0, o1, ed⟩ := ho rfl; have ed' : l.drop 29 = addT o := ed; rw [if_pos rfl]
      by_cases q1 : sec = 86400
      · rw [if_pos q1]; exact J _ _ _ _
      rw [if_neg q1]
      by_cases q2 : num y m d < -60000
      · rw [if_pos q2]; exact J _ _ _ _
      rw [if_neg q2]
      by_cases q3 : num y m d > 60000
      · rw [decide_eq_true q3]; exact J _ _ _ _
      rw [decide_eq_false q3]; simp only [fuseeref43_Parse.j0, Bool.false_eq_true, if_false]; rw [wid (x := 86400 * num y m d) (by omega) (by omega), wid (x := 86400 * num y m d + sec) (by omega) (by omega), wid (x := 86400 * num y m d + sec - o) (by omega) (by omega), wid (x := (86400 * num y m d + sec - o) * 1000000000) (by omega) (by omega), wid (by omega) (by omega), rdmay]
      generalize hN : (86400 * num y m d + sec - o) * 1000000000 + nano = N
      by_cases mm : may43 N o
      · exfalso
        have x1 : N / 1000000000 = 86400 * num y m d + sec - o := by omega
        have x2 : N % 1000000000 = nano := by omega
        refine h N o ⟨mm, y, m, d, v, ?_, ?_⟩
        · unfold dayT; rw [x1]; omega
        · have x3 : secT N o = sec := by unfold secT; rw [x1]; omega
          rw [x3, x2, ← es, ← ed']; exact e0
      · rw [decide_eq_false mm]; simp only [Option.bind_some, Bool.false_eq_true, if_false]
  · rw [rd8_no (k + 2) hk ⟨(l.take 29).toArray⟩ (fun y m d sec nano q => g ⟨y, m, d, sec, nano, q⟩)]; simp only [Option.bind_some]; rw [if_neg (by decide)]
    exact J _ _ _ _
end Go.Proofs.YtfjifhkgifefeaaGreatDoor.CivP
end

section
namespace Go.Proofs.YtfjifhkgifefeaaGreatDoor.PT
open Giv PA Go.RowKit YtfjifhkgifefeaaGreatDoorW.PrintWords YtfjifhkgifefeaaGreatDoorW.PrintLast YtfjifhkgifefeaaGreatDoorW.PrintMore
attribute [local go_sem] max2_int min2_int max_two min_two max_three min_three max_four min_four
set_option linter.unusedVariables false
set_option linter.unusedSimpArgs false
def told_length.f (a0 : Int) : Option (ByteArray) := (strconv_FormatInt.f (wrap64 (Int.tdiv a0 1000000000)) 10).bind fun t157 => ((strconv_FormatInt.f (Int.tmod a0 1000000000) 10).bind fun t158 => ((strings_Repeat.f (⟨#[48]⟩ : ByteArray) (wrap64 (9 - (t158.size : Int)))).bind fun t159 => (if t159.size + t158.size ≤ 9223372036854775807 then ((strings_TrimRight.f (t159 ++ t158) (⟨#[48]⟩ : ByteArray)).bind fun t160 => (if t160.toList = ([] : List UInt8) then (if t157.size + 1 ≤ 9223372036854775807 then (some (t157 ++ (⟨#[115]⟩ : ByteArray))) else (none)) else (if t157.size + 1 ≤ 9223372036854775807 then (if (t157 ++ (⟨#[46]⟩ : ByteArray)).size + t160.size ≤ 9223372036854775807 then (if ((t157 ++ (⟨#[46]⟩ : ByteArray)) ++ t160).size + 1 ≤ 9223372036854775807 then (some (((t157 ++ (⟨#[46]⟩ : ByteArray)) ++ t160) ++ (⟨#[115]⟩ : ByteArray))) else (none)) else (none)) else (none)))) else (none))))
theorem told_length.calls (a0 : Int) (r : ByteArray) (w : World) (hl_ : Laid w) (h : told_length.f a0 = some r) :
  Calls Tryz.prog 153 #[.int .i64 a0] w fun e w' => e = .returned (.string r) ∧ Below w.heap.size w w' := by
 have HL := Aside0.mk hl_; clear hl_; have HB := Aside0.mk (Below.refl w.heap.size w); have H := h; clear h
 unfold told_length.f at H
 replace H := Option.bind_eq_some_iff.mp H; obtain ⟨t157, A20, H⟩ := H; (try dsimp only at H); have A2 := Aside0.mk A20; clear A20; replace H := Option.bind_eq_some_iff.mp H; obtain ⟨t158, A30, H⟩ := H; (try dsimp only at H); have A3 := Aside0.mk A30; clear A30; replace H := Option.bind_eq_some_iff.mp H; obtain ⟨t159, A40, H⟩ := H; (try dsimp only at H); have A4 := Aside0.mk A40; clear A40
 by_cases c5 : t159.size + t158.size ≤ 9223372036854775807
 ·rw [if_pos c5] at H; have c5b0 := eq_true c5; have c5b1 : decide (t159.size + t158.size ≤ 9223372036854775807) = true := decide_eq_true c5
  try have c5b2 : (9223372036854775807 < t159.size + t158.size) = False := eq_false (Nat.not_lt.2 c5)
  replace H := Option.bind_eq_some_iff.mp H; obtain ⟨t160, A60, H⟩ := H; (try dsimp only at H); have A6 := Aside0.mk A60; clear A60
  by_cases c7 : t160.toList = ([] : List UInt8)
  ·rw [if_pos c7] at H; have c7b0 : (t160.toList == ([] : List UInt8)) = true := beq_iff_eq.mpr c7; have c7b1 : (t160.toList != ([] : List UInt8)) = false := bne_eq_false_iff_eq.mpr c7; clear c7
   by_cases c8 : t157.size + 1 ≤ 9223372036854775807
   ·rw [if_pos c8] at H; have c8b0 := eq_true c8; have c8b1 : decide (t157.size + 1 ≤ 9223372036854775807) = true := decide_eq_true c8
    try have c8b2 : (9223372036854775807 < t157.size + 1) = False := eq_false (Nat.not_lt.2 c8)
    obtain rfl := Option.some.inj H
    go_enter Tryz.func153, Tryz.ntmps153
    go_wp2_with (first | ((with_reducible refine gate_callee (f := 114) rfl ?_); refine gd_ (some 7) Tryz.func114 (strconv_FormatInt.calls (wrap64 (Int.tdiv a0 1000000000)) 10 t157 _ lb_ A2.out) ?_; intro w9 hb; replace HB := bs_ hb; (try clear hb)) | ((with_reducible refine gate_callee (f := 114) rfl ?_); refine gd_ (some 10) Tryz.func114 (strconv_FormatInt.calls (Int.tmod a0 1000000000) 10 t158 _ lb_ A3.out) ?_; intro w10 hb; replace HB := bs_ hb; (try clear hb)) | ((with_reducible refine gate_callee (f := 155) rfl ?_); refine gd_ (some 14) Tryz.func155 (strings_Repeat.calls (⟨#[48]⟩ : ByteArray) (wrap64 (9 - (t158.size : Int))) t159 _ A4.out) ?_; intro w11 hb; replace HB := bs_ hb; (try clear hb)) | ((with_reducible refine gate_callee (f := 188) rfl ?_); refine gd_ (some 17) Tryz.func188 (strings_TrimRight.calls (t159 ++ t158) (⟨#[48]⟩ : ByteArray) t160 _ A6.out) ?_; intro w12 hb; replace HB := bs_ hb; (try clear hb)))
    go_ret
    exact en_
   ·rw [if_neg c8] at H; exact absurd H (by simp)
  ·rw [if_neg c7] at H; have c7b0 : (t160.toList == ([] : List UInt8)) = false := beq_eq_false_iff_ne.mpr c7; have c7b1 : (t160.toList != ([] : List UInt8)) = true := bne_iff_ne.mpr c7
   by_cases c13 : t157.size + 1 ≤ 9223372036854775807
   ·rw [if_pos c13] at H; have c13b0 := eq_true c13; have c13b1 : decide (t157.size + 1 ≤ 9223372036854775807) = true := decide_eq_true c13
    try have c13b2 : (9223372036854775807 < t157.size + 1) = False := eq_false (Nat.not_lt.2 c13)
    by_cases c14 : (t157 ++ (⟨#[46]⟩ : ByteArray)).size + t160.size ≤ 9223372036854775807
    ·rw [if_pos c14] at H; have c14b0 := eq_true c14; have c14b1 : decide ((t157 ++ (⟨#[46]⟩ : ByteArray)).size + t160.size ≤ 9223372036854775807) = true := decide_eq_true c14
     try have c14b2 : (9223372036854775807 < (t157 ++ (⟨#[46]⟩ : ByteArray)).size + t160.size) = False := eq_false (Nat.not_lt.2 c14)
     try have c14b3 : (9223372036854775807 < t157.size + 1 + t160.size) = False := eq_false (by have q_ := c14; simp only [ByteArray.size_append] at q_; exact Nat.not_lt.2 q_)
     by_cases c15 : ((t157 ++ (⟨#[46]⟩ : ByteArray)) ++ t160).size + 1 ≤ 9223372036854775807
     ·rw [if_pos c15] at H; have c15b0 := eq_true c15; have c15b1 : decide (((t157 ++ (⟨#[46]⟩ : ByteArray)) ++ t160).size + 1 ≤ 9223372036854775807) = true := decide_eq_true c15
      try have c15b2 : (9223372036854775807 < ((t157 ++ (⟨#[46]⟩ : ByteArray)) ++ t160).size + 1) = False := eq_false (Nat.not_lt.2 c15)
      try have c15b3 : (9223372036854775807 < t157.size + 1 + t160.size + 1) = False := eq_false (by have q_ := c15; simp only [ByteArray.size_append] at q_; exact Nat.not_lt.2 q_)
      obtain rfl := Option.some.inj H
      go_enter Tryz.func153, Tryz.ntmps153
      go_wp2_with (first | ((with_reducible refine gate_callee (f := 114) rfl ?_); refine gd_ (some 7) Tryz.func114 (strconv_FormatInt.calls (wrap64 (Int.tdiv a0 1000000000)) 10 t157 _ lb_ A2.out) ?_; intro w16 hb; replace HB := bs_ hb; (try clear hb)) | ((with_reducible refine gate_callee (f := 114) rfl ?_); refine gd_ (some 10) Tryz.func114 (strconv_FormatInt.calls (Int.tmod a0 1000000000) 10 t158 _ lb_ A3.out) ?_; intro w17 hb; replace HB := bs_ hb; (try clear hb)) | ((with_reducible refine gate_callee (f := 155) rfl ?_); refine gd_ (some 14) Tryz.func155 (strings_Repeat.calls (⟨#[48]⟩ : ByteArray) (wrap64 (9 - (t158.size : Int))) t159 _ A4.out) ?_; intro w18 hb; replace HB := bs_ hb; (try clear hb)) | ((with_reducible refine gate_callee (f := 188) rfl ?_); refine gd_ (some 17) Tryz.func188 (strings_TrimRight.calls (t159 ++ t158) (⟨#[48]⟩ : ByteArray) t160 _ A6.out) ?_; intro w19 hb; replace HB := bs_ hb; (try clear hb)))
      go_ret
      exact en_
     ·rw [if_neg c15] at H; exact absurd H (by simp)
    ·rw [if_neg c14] at H; exact absurd H (by simp)
   ·rw [if_neg c13] at H; exact absurd H (by simp)
 ·rw [if_neg c5] at H; exact absurd H (by simp)
end Go.Proofs.YtfjifhkgifefeaaGreatDoor.PT
end

section
namespace Go.Proofs.YtfjifhkgifefeaaGreatDoor.PT
open Giv PA Go.RowKit YtfjifhkgifefeaaGreatDoorW.PrintWords YtfjifhkgifefeaaGreatDoorW.PrintLast YtfjifhkgifefeaaGreatDoorW.PrintMore
attribute [local go_sem] max2_int min2_int max_two min_two max_three min_three max_four min_four
set_option linter.unusedVariables false
set_option linter.unusedSimpArgs false
def told_Length.f (a0 : Int) : Option (ByteArray × Option Int) := if a0 < 0 then (some ((⟨#[]⟩ : ByteArray), some 1)) else ((told_length.f a0).bind fun t161 => (some (t161, none)))
theorem told_Length.calls (a0 : Int) (r1 : ByteArray) (r2 : Option Int) (w : World) (hl_ : Laid w) (h : told_Length.f a0 = some (r1, r2)) :
  Calls Tryz.prog 84 #[.int .i64 a0] w fun e w' => e = .returned (.tuple #[.string r1, errW r2]) ∧ Below w.heap.size w w' := by
 have hu28 := Tryz.underlying28; have hu157 := Tryz.underlying157; have HL := Aside0.mk hl_; clear hl_; have HB := Aside0.mk (Below.refl w.heap.size w); have H := h; clear h; replace H : (if a0 < 0 then (some ((⟨#[]⟩ : ByteArray), some 1)) else ((told_length.f a0).bind fun t161 => (some (t161, none)))) = some (r1, r2) := H
 by_cases c2 : a0 < 0
 ·rw [if_pos c2] at H; have c2b0 : decide (a0 < 0) = true := decide_eq_true c2; clear c2; simp only [Option.some.injEq, Prod.mk.injEq] at H; obtain ⟨rfl, rfl⟩ := H
  go_enter Tryz.func84, Tryz.ntmps84
  go_wp2
  go_ret2
  exact en_
 ·rw [if_neg c2] at H; have c2b0 : decide (a0 < 0) = false := decide_eq_false c2; clear c2; replace H := Option.bind_eq_some_iff.mp H; obtain ⟨t161, A30, H⟩ := H; (try dsimp only at H); have A3 := Aside0.mk A30; clear A30; simp only [Option.some.injEq, Prod.mk.injEq] at H; obtain ⟨rfl, rfl⟩ := H
  go_enter Tryz.func84, Tryz.ntmps84
  go_wp2_with (first | ((with_reducible refine gate_callee (f := 153) rfl ?_); refine gd_ (some 8) Tryz.func153 (told_length.calls a0 t161 _ lb_ A3.out) ?_; intro w4 hb; replace HB := bs_ hb; (try clear hb)))
  go_ret2
  exact en_
end Go.Proofs.YtfjifhkgifefeaaGreatDoor.PT
end

section
namespace Go.Proofs.YtfjifhkgifefeaaGreatDoor.PT
open Giv PA Go.RowKit YtfjifhkgifefeaaGreatDoorW.PrintWords YtfjifhkgifefeaaGreatDoorW.PrintLast YtfjifhkgifefeaaGreatDoorW.PrintMore
attribute [local go_sem] max2_int min2_int max_two min_two max_three min_three max_four min_four
set_option linter.unusedVariables false
set_option linter.unusedSimpArgs false
def told_Long.j0 : Nat → ByteArray → ByteArray → ByteArray → Bool → Option (Int × Option Int)
 | 0, _, _, _, _ => none
 | k + 1, x0, x6, x7, x29 => if x29 = true then (some (0, some 3)) else ((strconv_ParseInt.f x6 10 64).bind fun bt167 => (if bt167.2.isNone = true then (if 1 + x7.size ≤ 9223372036854775807 then ((strings_Repeat.f (⟨#[48]⟩ : ByteArray) (wrap64 (9 - (x7.size : Int)))).bind fun t170 => (if ((⟨#[48]⟩ : ByteArray) ++ x7).size + t170.size ≤ 9223372036854775807 then ((strconv_ParseInt.f (((⟨#[48]⟩ : ByteArray) ++ x7) ++ t170) 10 64).bind fun bt171 => (if bt171.2.isNone = true then ((num_Mul.f k bt167.1 1000000000).bind fun bt174 => (if bt174.2.isNone = true then ((num_Add.f bt174.1 bt171.1).bind fun bt177 => (if bt177.2.isNone = true then (if bt177.1 < 0 then (some (0, some 3)) else ((told_length.f bt177.1).bind fun t180 => (if t180.toList = x0.toList then (some (bt177.1, none)) else (some (0, some 3))))) else (some (0, some 3)))) else (some (0, some 3)))) else (some (0, some 3)))) else (none))) else (none)) else (some (0, some 3))))
def told_Long.f (k : Nat) (a0 : ByteArray) : Option (Int × Option Int) := (strings_CutSuffix.f a0 (⟨#[115]⟩ : ByteArray)).bind fun bt162 => ((strings_Cut.f bt162.1 (⟨#[46]⟩ : ByteArray)).bind fun bt164 => (if bt162.2 = true then (told_Long.j0 k a0 bt164.1 bt164.2.1 (decide ((bt164.2.1.size : Int) > 9))) else (told_Long.j0 k a0 bt164.1 bt164.2.1 true)))
theorem told_Long.calls (k : Nat) (a0 : ByteArray) (r1 : Int) (r2 : Option Int) (w : World) (hl_ : Laid w) (h : told_Long.f k a0 = some (r1, r2)) :
  Calls Tryz.prog 86 #[.string a0] w fun e w' => e = .returned (.tuple #[.int .i64 r1, errW r2]) ∧ Below w.heap.size w w' := by
 have hu28 := Tryz.underlying28; have hu157 := Tryz.underlying157; have HL := Aside0.mk hl_; clear hl_; have HB := Aside0.mk (Below.refl w.heap.size w); have H := h; clear h
 unfold told_Long.f at H
 replace H := Option.bind_eq_some_iff.mp H; obtain ⟨⟨t162, t163⟩, A20, H⟩ := H; (try dsimp only at H); have A2 := Aside0.mk A20; clear A20; replace H := Option.bind_eq_some_iff.mp H; obtain ⟨⟨t164, t165, t166⟩, A30, H⟩ := H; (try dsimp only at H); have A3 := Aside0.mk A30; clear A30; have HC4 := Aside0.mk H; clear H
 go_enter Tryz.func86, Tryz.ntmps86
 go_upto_region 3 with (first | ((with_reducible refine gate_callee (f := 120) rfl ?_); refine gd_ (some 14) Tryz.func120 (strings_CutSuffix.calls a0 (⟨#[115]⟩ : ByteArray) t162 t163 _ A2.out) ?_; intro w5 hb; replace HB := bs_ hb; (try clear hb)) | ((with_reducible refine gate_callee (f := 104) rfl ?_); refine gd_ (some 19) Tryz.func104 (strings_Cut.calls t162 (⟨#[46]⟩ : ByteArray) t164 t165 t166 _ lb_ A3.out) ?_; intro w6 hb; replace HB := bs_ hb; (try clear hb)))
 (try simp only [Act.put, List.setIfInBounds_toArray, List.set_cons_zero, List.set_cons_succ])
 go_cut [29] (fun v29 wc => ∃ (kq : Nat) (x29_3 : Bool), v29 = .bool x29_3 ∧ Aside0 (told_Long.j0 kq a0 t164 t165 x29_3 = some (r1, r2)) ∧ Aside0 (kq ≤ k) ∧ Aside0 (Below w.heap.size w wc))
 case first =>
  have H := HC4.out; clear HC4
  by_cases c7 : t163 = true
  ·subst c7
   have H1 : (told_Long.j0 k a0 t164 t165 (decide ((t165.size : Int) > 9))) = some (r1, r2) := by rw [if_pos rfl] at H; exact H
   clear H; have H := H1; clear H1; have H' := Aside0.mk H; clear H
   go_wp2
   go_meet
   case rel => exact ⟨_, (decide ((t165.size : Int) > 9)), rs_, H', ⟨by first | omega | exact Nat.le_refl _⟩, ⟨bl_⟩⟩
  ·replace c7 := Bool.eq_false_iff.mpr c7; subst c7
   have H1 : (told_Long.j0 k a0 t164 t165 true) = some (r1, r2) := by rw [if_neg (show ¬ (false = true) by decide)] at H; exact H
   clear H; have H := H1; clear H1; have H' := Aside0.mk H; clear H
   go_wp2
   go_meet
   case rel => exact ⟨_, (true), rs_, H', ⟨by first | omega | exact Nat.le_refl _⟩, ⟨bl_⟩⟩
 case rest =>
  clear HC4; (try clear c1); (try clear p2); (try clear c7); obtain ⟨kq, x29_3, rfl, HA, HJ3, HB⟩ := hcut
  cases kq with
  | zero => exact absurd HA.out (by simp [told_Long.j0])
  | succ kj3 =>
   have H := HA.out; clear HA; simp only [told_Long.j0] at H
   by_cases c8 : x29_3 = true
   ·subst c8
    have H1 : (some (0, some 3)) = some (r1, r2) := by rw [if_pos rfl] at H; exact H
    clear H; have H := H1; clear H1; simp only [Option.some.injEq, Prod.mk.injEq] at H; obtain ⟨rfl, rfl⟩ := H
    go_wp2
    go_ret2
    exact en_
   ·replace c8 := Bool.eq_false_iff.mpr c8; subst c8
    have H1 : ((strconv_ParseInt.f t164 10 64).bind fun bt167 => (if bt167.2.isNone = true then (if 1 + t165.size ≤ 9223372036854775807 then ((strings_Repeat.f (⟨#[48]⟩ : ByteArray) (wrap64 (9 - (t165.size : Int)))).bind fun t170 => (if ((⟨#[48]⟩ : ByteArray) ++ t165).size + t170.size ≤ 9223372036854775807 then ((strconv_ParseInt.f (((⟨#[48]⟩ : ByteArray) ++ t165) ++ t170) 10 64).bind fun bt171 => (if bt171.2.isNone = true then ((num_Mul.f kj3 bt167.1 1000000000).bind fun bt174 => (if bt174.2.isNone = true then ((num_Add.f bt174.1 bt171.1).bind fun bt177 => (if bt177.2.isNone = true then (if bt177.1 < 0 then (some (0, some 3)) else ((told_length.f bt177.1).bind fun t180 => (if t180.toList = a0.toList then (some (bt177.1, none)) else (some (0, some 3))))) else (some (0, some 3)))) else (some (0, some 3)))) else (some (0, some 3)))) else (none))) else (none)) else (some (0, some 3)))) = some (r1, r2) := by rw [if_neg (show ¬ (false = true) by decide)] at H; exact H
    clear H; have H := H1; clear H1; replace H := Option.bind_eq_some_iff.mp H; obtain ⟨⟨t167, t168⟩, A90, H⟩ := H; (try dsimp only at H); have A9 := Aside0.mk A90; clear A90
    rcases t168 with _ | q169
    ·rw [if_pos (show (none : Option Int).isNone = true by rfl)] at H
     try dsimp only [Option.getD_some] at H
     try simp only [errW_none, errW_some]
     by_cases c10 : 1 + t165.size ≤ 9223372036854775807
     ·rw [if_pos c10] at H; have c10b0 := eq_true c10; have c10b1 : decide (1 + t165.size ≤ 9223372036854775807) = true := decide_eq_true c10
      try have c10b2 : (9223372036854775807 < 1 + t165.size) = False := eq_false (Nat.not_lt.2 c10)
      replace H := Option.bind_eq_some_iff.mp H; obtain ⟨t170, A110, H⟩ := H; (try dsimp only at H); have A11 := Aside0.mk A110; clear A110
      by_cases c12 : ((⟨#[48]⟩ : ByteArray) ++ t165).size + t170.size ≤ 9223372036854775807
      ·rw [if_pos c12] at H; have c12b0 := eq_true c12; have c12b1 : decide (((⟨#[48]⟩ : ByteArray) ++ t165).size + t170.size ≤ 9223372036854775807) = true := decide_eq_true c12
       try have c12b2 : (9223372036854775807 < ((⟨#[48]⟩ : ByteArray) ++ t165).size + t170.size) = False := eq_false (Nat.not_lt.2 c12)
       try have c12b3 : (9223372036854775807 < 1 + t165.size + t170.size) = False := eq_false (by have q_ := c12; simp only [ByteArray.size_append] at q_; exact Nat.not_lt.2 q_)
       replace H := Option.bind_eq_some_iff.mp H; obtain ⟨⟨t171, t172⟩, A130, H⟩ := H; (try dsimp only at H); have A13 := Aside0.mk A130; clear A130
       rcases t172 with _ | q173
       ·rw [if_pos (show (none : Option Int).isNone = true by rfl)] at H
        try dsimp only [Option.getD_some] at H
        try simp only [errW_none, errW_some]
        replace H := Option.bind_eq_some_iff.mp H; obtain ⟨⟨t174, t175⟩, A140, H⟩ := H; (try dsimp only at H); have A14 := Aside0.mk A140; clear A140
        rcases t175 with _ | q176
        ·rw [if_pos (show (none : Option Int).isNone = true by rfl)] at H
         try dsimp only [Option.getD_some] at H
         try simp only [errW_none, errW_some]
         replace H := Option.bind_eq_some_iff.mp H; obtain ⟨⟨t177, t178⟩, A150, H⟩ := H; (try dsimp only at H); have A15 := Aside0.mk A150; clear A150
         rcases t178 with _ | q179
         ·rw [if_pos (show (none : Option Int).isNone = true by rfl)] at H
          try dsimp only [Option.getD_some] at H
          try simp only [errW_none, errW_some]
          by_cases c16 : t177 < 0
          ·rw [if_pos c16] at H; have c16b0 : decide (t177 < 0) = true := decide_eq_true c16; clear c16; simp only [Option.some.injEq, Prod.mk.injEq] at H; obtain ⟨rfl, rfl⟩ := H
           go_wp2_with (first | ((with_reducible refine gate_callee (f := 113) rfl ?_); refine gd_ (some 33) Tryz.func113 (strconv_ParseInt.calls t164 10 64 t167 none _ lb_ A9.out) ?_; intro w17 hb; replace HB := bs_ hb; (try clear hb); (try simp only [errW_none, errW_some])) | ((with_reducible refine gate_callee (f := 155) rfl ?_); refine gd_ (some 45) Tryz.func155 (strings_Repeat.calls (⟨#[48]⟩ : ByteArray) (wrap64 (9 - (t165.size : Int))) t170 _ A11.out) ?_; intro w18 hb; replace HB := bs_ hb; (try clear hb)) | ((with_reducible refine gate_callee (f := 113) rfl ?_); refine gd_ (some 47) Tryz.func113 (strconv_ParseInt.calls (((⟨#[48]⟩ : ByteArray) ++ t165) ++ t170) 10 64 t171 none _ lb_ A13.out) ?_; intro w19 hb; replace HB := bs_ hb; (try clear hb); (try simp only [errW_none, errW_some])) | ((with_reducible refine gate_callee (f := 150) rfl ?_); refine gc_ (some 55) Tryz.func150 (num_Mul.calls kj3 t167 1000000000 t174 none _ A14.out) ?_; rintro e w' ⟨rfl, ⟨nd, rfl⟩⟩; refine ⟨_, rfl, ?_⟩; (try simp only [errW_none, errW_some])) | ((with_reducible refine gate_callee (f := 92) rfl ?_); refine gc_ (some 64) Tryz.func92 (num_Add.calls t174 t171 t177 none _ A15.out) ?_; rintro e w' ⟨rfl, ⟨nd, rfl⟩⟩; refine ⟨_, rfl, ?_⟩; (try simp only [errW_none, errW_some])))
           go_ret2
           exact en_
          ·rw [if_neg c16] at H; have c16b0 : decide (t177 < 0) = false := decide_eq_false c16; clear c16; replace H := Option.bind_eq_some_iff.mp H; obtain ⟨t180, A200, H⟩ := H; (try dsimp only at H); have A20 := Aside0.mk A200; clear A200
           by_cases c21 : t180.toList = a0.toList
           ·rw [if_pos c21] at H; have c21b0 : (t180.toList == a0.toList) = true := beq_iff_eq.mpr c21; have c21b1 : (t180.toList != a0.toList) = false := bne_eq_false_iff_eq.mpr c21; clear c21; simp only [Option.some.injEq, Prod.mk.injEq] at H; obtain ⟨rfl, rfl⟩ := H
            go_wp2_with (first | ((with_reducible refine gate_callee (f := 113) rfl ?_); refine gd_ (some 33) Tryz.func113 (strconv_ParseInt.calls t164 10 64 t167 none _ lb_ A9.out) ?_; intro w22 hb; replace HB := bs_ hb; (try clear hb); (try simp only [errW_none, errW_some])) | ((with_reducible refine gate_callee (f := 155) rfl ?_); refine gd_ (some 45) Tryz.func155 (strings_Repeat.calls (⟨#[48]⟩ : ByteArray) (wrap64 (9 - (t165.size : Int))) t170 _ A11.out) ?_; intro w23 hb; replace HB := bs_ hb; (try clear hb)) | ((with_reducible refine gate_callee (f := 113) rfl ?_); refine gd_ (some 47) Tryz.func113 (strconv_ParseInt.calls (((⟨#[48]⟩ : ByteArray) ++ t165) ++ t170) 10 64 t171 none _ lb_ A13.out) ?_; intro w24 hb; replace HB := bs_ hb; (try clear hb); (try simp only [errW_none, errW_some])) | ((with_reducible refine gate_callee (f := 150) rfl ?_); refine gc_ (some 55) Tryz.func150 (num_Mul.calls kj3 t167 1000000000 t174 none _ A14.out) ?_; rintro e w' ⟨rfl, ⟨nd, rfl⟩⟩; refine ⟨_, rfl, ?_⟩; (try simp only [errW_none, errW_some])) | ((with_reducible refine gate_callee (f := 92) rfl ?_); refine gc_ (some 64) Tryz.func92 (num_Add.calls t174 t171 t177 none _ A15.out) ?_; rintro e w' ⟨rfl, ⟨nd, rfl⟩⟩; refine ⟨_, rfl, ?_⟩; (try simp only [errW_none, errW_some])) | (go_at_call 153; (with_reducible refine (told_length.calls t177 t180 _ lb_ A20.out).mono ?_); rintro e w25 ⟨rfl, hb⟩; replace HB := bs_ hb))
            go_ret2
            exact en_
           ·rw [if_neg c21] at H; have c21b0 : (t180.toList == a0.toList) = false := beq_eq_false_iff_ne.mpr c21; have c21b1 : (t180.toList != a0.toList) = true := bne_iff_ne.mpr c21; simp only [Option.some.injEq, Prod.mk.injEq] at H; obtain ⟨rfl, rfl⟩ := H
            go_wp2_with (first | ((with_reducible refine gate_callee (f := 113) rfl ?_); refine gd_ (some 33) Tryz.func113 (strconv_ParseInt.calls t164 10 64 t167 none _ lb_ A9.out) ?_; intro w26 hb; replace HB := bs_ hb; (try clear hb); (try simp only [errW_none, errW_some])) | ((with_reducible refine gate_callee (f := 155) rfl ?_); refine gd_ (some 45) Tryz.func155 (strings_Repeat.calls (⟨#[48]⟩ : ByteArray) (wrap64 (9 - (t165.size : Int))) t170 _ A11.out) ?_; intro w27 hb; replace HB := bs_ hb; (try clear hb)) | ((with_reducible refine gate_callee (f := 113) rfl ?_); refine gd_ (some 47) Tryz.func113 (strconv_ParseInt.calls (((⟨#[48]⟩ : ByteArray) ++ t165) ++ t170) 10 64 t171 none _ lb_ A13.out) ?_; intro w28 hb; replace HB := bs_ hb; (try clear hb); (try simp only [errW_none, errW_some])) | ((with_reducible refine gate_callee (f := 150) rfl ?_); refine gc_ (some 55) Tryz.func150 (num_Mul.calls kj3 t167 1000000000 t174 none _ A14.out) ?_; rintro e w' ⟨rfl, ⟨nd, rfl⟩⟩; refine ⟨_, rfl, ?_⟩; (try simp only [errW_none, errW_some])) | ((with_reducible refine gate_callee (f := 92) rfl ?_); refine gc_ (some 64) Tryz.func92 (num_Add.calls t174 t171 t177 none _ A15.out) ?_; rintro e w' ⟨rfl, ⟨nd, rfl⟩⟩; refine ⟨_, rfl, ?_⟩; (try simp only [errW_none, errW_some])) | (go_at_call 153; (with_reducible refine (told_length.calls t177 t180 _ lb_ A20.out).mono ?_); rintro e w29 ⟨rfl, hb⟩; replace HB := bs_ hb))
            go_ret2
            exact en_
         ·rw [if_neg (show ¬ (some q179).isNone = true by simp)] at H
          try dsimp only [Option.getD_some] at H
          try simp only [errW_none, errW_some]
          simp only [Option.some.injEq, Prod.mk.injEq] at H; obtain ⟨rfl, rfl⟩ := H
          go_wp2_with (first | ((with_reducible refine gate_callee (f := 113) rfl ?_); refine gd_ (some 33) Tryz.func113 (strconv_ParseInt.calls t164 10 64 t167 none _ lb_ A9.out) ?_; intro w30 hb; replace HB := bs_ hb; (try clear hb); (try simp only [errW_none, errW_some])) | ((with_reducible refine gate_callee (f := 155) rfl ?_); refine gd_ (some 45) Tryz.func155 (strings_Repeat.calls (⟨#[48]⟩ : ByteArray) (wrap64 (9 - (t165.size : Int))) t170 _ A11.out) ?_; intro w31 hb; replace HB := bs_ hb; (try clear hb)) | ((with_reducible refine gate_callee (f := 113) rfl ?_); refine gd_ (some 47) Tryz.func113 (strconv_ParseInt.calls (((⟨#[48]⟩ : ByteArray) ++ t165) ++ t170) 10 64 t171 none _ lb_ A13.out) ?_; intro w32 hb; replace HB := bs_ hb; (try clear hb); (try simp only [errW_none, errW_some])) | ((with_reducible refine gate_callee (f := 150) rfl ?_); refine gc_ (some 55) Tryz.func150 (num_Mul.calls kj3 t167 1000000000 t174 none _ A14.out) ?_; rintro e w' ⟨rfl, ⟨nd, rfl⟩⟩; refine ⟨_, rfl, ?_⟩; (try simp only [errW_none, errW_some])) | ((with_reducible refine gate_callee (f := 92) rfl ?_); refine gc_ (some 64) Tryz.func92 (num_Add.calls t174 t171 t177 (some q179) _ A15.out) ?_; rintro e w' ⟨rfl, ⟨nd, rfl⟩⟩; refine ⟨_, rfl, ?_⟩; (try simp only [errW_none, errW_some])))
          go_ret2
          exact en_
        ·rw [if_neg (show ¬ (some q176).isNone = true by simp)] at H
         try dsimp only [Option.getD_some] at H
         try simp only [errW_none, errW_some]
         simp only [Option.some.injEq, Prod.mk.injEq] at H; obtain ⟨rfl, rfl⟩ := H
         go_wp2_with (first | ((with_reducible refine gate_callee (f := 113) rfl ?_); refine gd_ (some 33) Tryz.func113 (strconv_ParseInt.calls t164 10 64 t167 none _ lb_ A9.out) ?_; intro w33 hb; replace HB := bs_ hb; (try clear hb); (try simp only [errW_none, errW_some])) | ((with_reducible refine gate_callee (f := 155) rfl ?_); refine gd_ (some 45) Tryz.func155 (strings_Repeat.calls (⟨#[48]⟩ : ByteArray) (wrap64 (9 - (t165.size : Int))) t170 _ A11.out) ?_; intro w34 hb; replace HB := bs_ hb; (try clear hb)) | ((with_reducible refine gate_callee (f := 113) rfl ?_); refine gd_ (some 47) Tryz.func113 (strconv_ParseInt.calls (((⟨#[48]⟩ : ByteArray) ++ t165) ++ t170) 10 64 t171 none _ lb_ A13.out) ?_; intro w35 hb; replace HB := bs_ hb; (try clear hb); (try simp only [errW_none, errW_some])) | ((with_reducible refine gate_callee (f := 150) rfl ?_); refine gc_ (some 55) Tryz.func150 (num_Mul.calls kj3 t167 1000000000 t174 (some q176) _ A14.out) ?_; rintro e w' ⟨rfl, ⟨nd, rfl⟩⟩; refine ⟨_, rfl, ?_⟩; (try simp only [errW_none, errW_some])))
         go_ret2
         exact en_
       ·rw [if_neg (show ¬ (some q173).isNone = true by simp)] at H
        try dsimp only [Option.getD_some] at H
        try simp only [errW_none, errW_some]
        simp only [Option.some.injEq, Prod.mk.injEq] at H; obtain ⟨rfl, rfl⟩ := H
        go_wp2_with (first | ((with_reducible refine gate_callee (f := 113) rfl ?_); refine gd_ (some 33) Tryz.func113 (strconv_ParseInt.calls t164 10 64 t167 none _ lb_ A9.out) ?_; intro w36 hb; replace HB := bs_ hb; (try clear hb); (try simp only [errW_none, errW_some])) | ((with_reducible refine gate_callee (f := 155) rfl ?_); refine gd_ (some 45) Tryz.func155 (strings_Repeat.calls (⟨#[48]⟩ : ByteArray) (wrap64 (9 - (t165.size : Int))) t170 _ A11.out) ?_; intro w37 hb; replace HB := bs_ hb; (try clear hb)) | ((with_reducible refine gate_callee (f := 113) rfl ?_); refine gc_ (some 47) Tryz.func113 (strconv_ParseInt.calls (((⟨#[48]⟩ : ByteArray) ++ t165) ++ t170) 10 64 t171 (some q173) _ lb_ A13.out) ?_; rintro e w38 ⟨⟨_, _, rfl⟩, hb⟩; refine ⟨_, rfl, ?_⟩; replace HB := bs_ hb; (try clear hb); (try simp only [errW_none, errW_some])))
        go_ret2
        exact en_
      ·rw [if_neg c12] at H; exact absurd H (by simp)
     ·rw [if_neg c10] at H; exact absurd H (by simp)
    ·rw [if_neg (show ¬ (some q169).isNone = true by simp)] at H
     try dsimp only [Option.getD_some] at H
     try simp only [errW_none, errW_some]
     simp only [Option.some.injEq, Prod.mk.injEq] at H; obtain ⟨rfl, rfl⟩ := H
     go_wp2_with (first | ((with_reducible refine gate_callee (f := 113) rfl ?_); refine gc_ (some 33) Tryz.func113 (strconv_ParseInt.calls t164 10 64 t167 (some q169) _ lb_ A9.out) ?_; rintro e w39 ⟨⟨_, _, rfl⟩, hb⟩; refine ⟨_, rfl, ?_⟩; replace HB := bs_ hb; (try clear hb); (try simp only [errW_none, errW_some])))
     go_ret2
     exact en_
end Go.Proofs.YtfjifhkgifefeaaGreatDoor.PT
end

section
namespace Go.Proofs.YtfjifhkgifefeaaGreatDoor.PT
open Giv PA Go.RowKit YtfjifhkgifefeaaGreatDoorW.PrintWords YtfjifhkgifefeaaGreatDoorW.PrintLast YtfjifhkgifefeaaGreatDoorW.PrintMore
attribute [local go_sem] max2_int min2_int max_two min_two max_three min_three max_four min_four
set_option linter.unusedVariables false
set_option linter.unusedSimpArgs false
def fuseeref43_digits.l0 : Nat → Int → ByteArray → Option (ByteArray)
 | 0, _, _ => none
 | k + 1, x0, x3 => if x0 > 0 then (if 0 ≤ (Int.tmod x0 10) then (if (Int.tmod x0 10) ≤ (wrap64 ((Int.tmod x0 10) + 1)) then (if (wrap64 ((Int.tmod x0 10) + 1)) ≤ 10 then (if ((⟨#[48, 49, 50, 51, 52, 53, 54, 55, 56, 57]⟩ : ByteArray).extract ((Int.tmod x0 10) : Int).toNat ((wrap64 ((Int.tmod x0 10) + 1)) : Int).toNat).size + x3.size ≤ 9223372036854775807 then (fuseeref43_digits.l0 k (wrap64 (Int.tdiv x0 10)) (((⟨#[48, 49, 50, 51, 52, 53, 54, 55, 56, 57]⟩ : ByteArray).extract ((Int.tmod x0 10) : Int).toNat ((wrap64 ((Int.tmod x0 10) + 1)) : Int).toNat) ++ x3)) else (none)) else (none)) else (none)) else (none)) else (if x3.toList = ([] : List UInt8) then (if 0 ≤ (Int.tmod x0 10) then (if (Int.tmod x0 10) ≤ (wrap64 ((Int.tmod x0 10) + 1)) then (if (wrap64 ((Int.tmod x0 10) + 1)) ≤ 10 then (if ((⟨#[48, 49, 50, 51, 52, 53, 54, 55, 56, 57]⟩ : ByteArray).extract ((Int.tmod x0 10) : Int).toNat ((wrap64 ((Int.tmod x0 10) + 1)) : Int).toNat).size + x3.size ≤ 9223372036854775807 then (fuseeref43_digits.l0 k (wrap64 (Int.tdiv x0 10)) (((⟨#[48, 49, 50, 51, 52, 53, 54, 55, 56, 57]⟩ : ByteArray).extract ((Int.tmod x0 10) : Int).toNat ((wrap64 ((Int.tmod x0 10) + 1)) : Int).toNat) ++ x3)) else (none)) else (none)) else (none)) else (none)) else (some x3))
def fuseeref43_digits.f (k : Nat) (a0 : Int) : Option (ByteArray) := fuseeref43_digits.l0 k a0 (⟨#[]⟩ : ByteArray)
theorem fuseeref43_digits.calls (k : Nat) (a0 : Int) (r : ByteArray) (w : World) (h : fuseeref43_digits.f k a0 = some r) :
  Calls Tryz.prog 154 #[.int .i64 a0] w fun e w' => e = .returned (.string r) ∧ Drawn0 w w' := by
 have H := h; clear h; replace H : (fuseeref43_digits.l0 k a0 (⟨#[]⟩ : ByteArray)) = some r := H; have H' := Aside0.mk H; clear H
 go_enter Tryz.func154, Tryz.ntmps154
 go_wp2
 go_loopg [0, 3] k (fun kq v0 v3 w' => ∃ (x0_1 : Int) (x3_1 : ByteArray), v0 = .int .i64 x0_1 ∧ v3 = .string x3_1 ∧ Aside0 (fuseeref43_digits.l0 kq x0_1 x3_1 = some r) ∧ Aside0 (kq ≤ k) ∧ Drawn0 w w')
 case atStart => exact ⟨(a0), ((⟨#[]⟩ : ByteArray)), rs_, rs_, H', ⟨Nat.le_refl _⟩, by repeat (first | exact Drawn0.refl _ | apply Drawn0.step)⟩
 case round =>
  clear H'; (try clear c1); obtain ⟨x0_1, x3_1, rfl, rfl, HA, HK1, ⟨m1, rfl⟩⟩ := hrel
  cases gk with
  | zero => exact absurd HA.out (by simp [fuseeref43_digits.l0])
  | succ k1 =>
   have H := HA.out; clear HA; simp only [fuseeref43_digits.l0] at H
   by_cases c2 : x0_1 > 0
   ·rw [if_pos c2] at H; have c2b0 : decide (0 < x0_1) = true := decide_eq_true c2; clear c2
    obtain ⟨ji3, hji3⟩ : ∃ j_ : Int, (Int.tmod x0_1 10) = j_ := ⟨_, rfl⟩
    replace H : (if 0 ≤ (ji3) then (if (ji3) ≤ (wrap64 ((ji3) + 1)) then (if (wrap64 ((ji3) + 1)) ≤ 10 then (if ((⟨#[48, 49, 50, 51, 52, 53, 54, 55, 56, 57]⟩ : ByteArray).extract ((ji3) : Int).toNat ((wrap64 ((ji3) + 1)) : Int).toNat).size + x3_1.size ≤ 9223372036854775807 then (fuseeref43_digits.l0 k1 (wrap64 (Int.tdiv x0_1 10)) (((⟨#[48, 49, 50, 51, 52, 53, 54, 55, 56, 57]⟩ : ByteArray).extract ((ji3) : Int).toNat ((wrap64 ((ji3) + 1)) : Int).toNat) ++ x3_1)) else (none)) else (none)) else (none)) else (none)) = some r := by first | (rw [hji3] at H; exact H) | (simp only [hji3] at H ⊢; exact H)
    by_cases c4 : 0 ≤ (ji3)
    ·rw [if_pos c4] at H; have c4b0 := eq_true c4; have c4b1 : decide (0 ≤ (ji3)) = true := decide_eq_true c4; clear c4
     by_cases c5 : (ji3) ≤ (wrap64 ((ji3) + 1))
     ·rw [if_pos c5] at H; have c5b0 := eq_true c5; have c5b1 : decide ((ji3) ≤ (wrap64 ((ji3) + 1))) = true := decide_eq_true c5
      by_cases c6 : (wrap64 ((ji3) + 1)) ≤ 10
      ·rw [if_pos c6] at H; have c6b0 := eq_true c6; have c6b1 : decide ((wrap64 ((ji3) + 1)) ≤ 10) = true := decide_eq_true c6
       by_cases c7 : ((⟨#[48, 49, 50, 51, 52, 53, 54, 55, 56, 57]⟩ : ByteArray).extract ((ji3) : Int).toNat ((wrap64 ((ji3) + 1)) : Int).toNat).size + x3_1.size ≤ 9223372036854775807
       ·rw [if_pos c7] at H; have c7b0 := eq_true c7; have c7b1 : decide (((⟨#[48, 49, 50, 51, 52, 53, 54, 55, 56, 57]⟩ : ByteArray).extract ((ji3) : Int).toNat ((wrap64 ((ji3) + 1)) : Int).toNat).size + x3_1.size ≤ 9223372036854775807) = true := decide_eq_true c7
        try have c7b2 : (9223372036854775807 < ((⟨#[48, 49, 50, 51, 52, 53, 54, 55, 56, 57]⟩ : ByteArray).extract ((ji3) : Int).toNat ((wrap64 ((ji3) + 1)) : Int).toNat).size + x3_1.size) = False := eq_false (Nat.not_lt.2 c7)
        have H' := Aside0.mk H; clear H
        go_wp2
        go_roundg k1
        case measure => have := HK1.out; omega
        case rel => exact ⟨(wrap64 (Int.tdiv x0_1 10)), (((⟨#[48, 49, 50, 51, 52, 53, 54, 55, 56, 57]⟩ : ByteArray).extract ((ji3) : Int).toNat ((wrap64 ((ji3) + 1)) : Int).toNat) ++ x3_1), rs_, (by first | rfl | (simp; done) | (simp only [← hji3] <;> (first | rfl | simp)) | (simp [*]; done)), H', ⟨by have := HK1.out; omega⟩, by repeat (first | exact Drawn0.refl _ | apply Drawn0.step)⟩
       ·rw [if_neg c7] at H; exact absurd H (by simp)
      ·rw [if_neg c6] at H; exact absurd H (by simp)
     ·rw [if_neg c5] at H; exact absurd H (by simp)
    ·rw [if_neg c4] at H; exact absurd H (by simp)
   ·rw [if_neg c2] at H; have c2b0 : decide (0 < x0_1) = false := decide_eq_false c2; clear c2
    by_cases c8 : x3_1.toList = ([] : List UInt8)
    ·rw [if_pos c8] at H; have c8b0 : (x3_1.toList == ([] : List UInt8)) = true := beq_iff_eq.mpr c8; have c8b1 : (x3_1.toList != ([] : List UInt8)) = false := bne_eq_false_iff_eq.mpr c8; clear c8
     obtain ⟨ji9, hji9⟩ : ∃ j_ : Int, (Int.tmod x0_1 10) = j_ := ⟨_, rfl⟩
     replace H : (if 0 ≤ (ji9) then (if (ji9) ≤ (wrap64 ((ji9) + 1)) then (if (wrap64 ((ji9) + 1)) ≤ 10 then (if ((⟨#[48, 49, 50, 51, 52, 53, 54, 55, 56, 57]⟩ : ByteArray).extract ((ji9) : Int).toNat ((wrap64 ((ji9) + 1)) : Int).toNat).size + x3_1.size ≤ 9223372036854775807 then (fuseeref43_digits.l0 k1 (wrap64 (Int.tdiv x0_1 10)) (((⟨#[48, 49, 50, 51, 52, 53, 54, 55, 56, 57]⟩ : ByteArray).extract ((ji9) : Int).toNat ((wrap64 ((ji9) + 1)) : Int).toNat) ++ x3_1)) else (none)) else (none)) else (none)) else (none)) = some r := by first | (rw [hji9] at H; exact H) | (simp only [hji9] at H ⊢; exact H)
     by_cases c10 : 0 ≤ (ji9)
     ·rw [if_pos c10] at H; have c10b0 := eq_true c10; have c10b1 : decide (0 ≤ (ji9)) = true := decide_eq_true c10; clear c10
      by_cases c11 : (ji9) ≤ (wrap64 ((ji9) + 1))
      ·rw [if_pos c11] at H; have c11b0 := eq_true c11; have c11b1 : decide ((ji9) ≤ (wrap64 ((ji9) + 1))) = true := decide_eq_true c11
       by_cases c12 : (wrap64 ((ji9) + 1)) ≤ 10
       ·rw [if_pos c12] at H; have c12b0 := eq_true c12; have c12b1 : decide ((wrap64 ((ji9) + 1)) ≤ 10) = true := decide_eq_true c12
        by_cases c13 : ((⟨#[48, 49, 50, 51, 52, 53, 54, 55, 56, 57]⟩ : ByteArray).extract ((ji9) : Int).toNat ((wrap64 ((ji9) + 1)) : Int).toNat).size + x3_1.size ≤ 9223372036854775807
        ·rw [if_pos c13] at H; have c13b0 := eq_true c13; have c13b1 : decide (((⟨#[48, 49, 50, 51, 52, 53, 54, 55, 56, 57]⟩ : ByteArray).extract ((ji9) : Int).toNat ((wrap64 ((ji9) + 1)) : Int).toNat).size + x3_1.size ≤ 9223372036854775807) = true := decide_eq_true c13
         try have c13b2 : (9223372036854775807 < ((⟨#[48, 49, 50, 51, 52, 53, 54, 55, 56, 57]⟩ : ByteArray).extract ((ji9) : Int).toNat ((wrap64 ((ji9) + 1)) : Int).toNat).size + x3_1.size) = False := eq_false (Nat.not_lt.2 c13)
         have H' := Aside0.mk H; clear H
         go_wp2
         go_roundg k1
         case measure => have := HK1.out; omega
         case rel => exact ⟨(wrap64 (Int.tdiv x0_1 10)), (((⟨#[48, 49, 50, 51, 52, 53, 54, 55, 56, 57]⟩ : ByteArray).extract ((ji9) : Int).toNat ((wrap64 ((ji9) + 1)) : Int).toNat) ++ x3_1), rs_, (by first | rfl | (simp; done) | (simp only [← hji9] <;> (first | rfl | simp)) | (simp [*]; done)), H', ⟨by have := HK1.out; omega⟩, by repeat (first | exact Drawn0.refl _ | apply Drawn0.step)⟩
        ·rw [if_neg c13] at H; exact absurd H (by simp)
       ·rw [if_neg c12] at H; exact absurd H (by simp)
      ·rw [if_neg c11] at H; exact absurd H (by simp)
     ·rw [if_neg c10] at H; exact absurd H (by simp)
    ·rw [if_neg c8] at H; have c8b0 : (x3_1.toList == ([] : List UInt8)) = false := beq_eq_false_iff_ne.mpr c8; have c8b1 : (x3_1.toList != ([] : List UInt8)) = true := bne_iff_ne.mpr c8
     obtain rfl := Option.some.inj H
     go_wp2
     go_ret
     exact ed_
end Go.Proofs.YtfjifhkgifefeaaGreatDoor.PT
end

section
namespace Go.Proofs.YtfjifhkgifefeaaGreatDoor.PT
open Giv PA Go.RowKit YtfjifhkgifefeaaGreatDoorW.PrintWords YtfjifhkgifefeaaGreatDoorW.PrintLast YtfjifhkgifefeaaGreatDoorW.PrintMore
attribute [local go_sem] max2_int min2_int max_two min_two max_three min_three max_four min_four
set_option linter.unusedVariables false
set_option linter.unusedSimpArgs false
def fuseeref43_Length.l0 : Nat → ByteArray → ByteArray → Option (ByteArray × Int)
 | 0, _, _ => none
 | k + 1, x4, x5 => if (x5.size : Int) > 0 then (if 0 ≤ (wrap64 ((x5.size : Int) - 1)) then (if (wrap64 ((x5.size : Int) - 1)) < (x5.size : Int) then (if (bt x5 (wrap64 ((x5.size : Int) - 1))) = 48 then (if (wrap64 ((x5.size : Int) - 1)) ≤ (x5.size : Int) then (fuseeref43_Length.l0 k x4 (x5.extract 0 ((wrap64 ((x5.size : Int) - 1)) : Int).toNat)) else (none)) else (if x5.toList = ([] : List UInt8) then (if x4.size + 1 ≤ 9223372036854775807 then (some (x4 ++ (⟨#[115]⟩ : ByteArray), 0)) else (none)) else (if x4.size + 1 ≤ 9223372036854775807 then (if (x4 ++ (⟨#[46]⟩ : ByteArray)).size + x5.size ≤ 9223372036854775807 then (if ((x4 ++ (⟨#[46]⟩ : ByteArray)) ++ x5).size + 1 ≤ 9223372036854775807 then (some (((x4 ++ (⟨#[46]⟩ : ByteArray)) ++ x5) ++ (⟨#[115]⟩ : ByteArray), 0)) else (none)) else (none)) else (none)))) else (none)) else (none)) else (if x5.toList = ([] : List UInt8) then (if x4.size + 1 ≤ 9223372036854775807 then (some (x4 ++ (⟨#[115]⟩ : ByteArray), 0)) else (none)) else (if x4.size + 1 ≤ 9223372036854775807 then (if (x4 ++ (⟨#[46]⟩ : ByteArray)).size + x5.size ≤ 9223372036854775807 then (if ((x4 ++ (⟨#[46]⟩ : ByteArray)) ++ x5).size + 1 ≤ 9223372036854775807 then (some (((x4 ++ (⟨#[46]⟩ : ByteArray)) ++ x5) ++ (⟨#[115]⟩ : ByteArray), 0)) else (none)) else (none)) else (none)))
def fuseeref43_Length.f (k : Nat) (a0 : Int) : Option (ByteArray × Int) := if a0 < 0 then (some ((⟨#[]⟩ : ByteArray), 1)) else ((fuseeref43_digits.f k (wrap64 (Int.tdiv a0 1000000000))).bind fun t206 => ((fuseeref07_Two.f k (Int.tmod a0 1000000000) 9).bind fun t207 => (fuseeref43_Length.l0 k t206 t207)))
theorem fuseeref43_Length.calls (k : Nat) (a0 : Int) (r1 : ByteArray) (r2 : Int) (w : World) (h : fuseeref43_Length.f k a0 = some (r1, r2)) :
  Calls Tryz.prog 85 #[.int .i64 a0] w fun e w' => e = .returned (.tuple #[.string r1, .int .i64 r2]) ∧ Drawn0 w w' := by
 have H := h; clear h
 unfold fuseeref43_Length.f at H
 by_cases c2 : a0 < 0
 ·rw [if_pos c2] at H; have c2b0 : decide (a0 < 0) = true := decide_eq_true c2; clear c2; simp only [Option.some.injEq, Prod.mk.injEq] at H; obtain ⟨rfl, rfl⟩ := H
  go_enter Tryz.func85, Tryz.ntmps85
  go_wp2
  go_ret2
  exact ed_
 ·rw [if_neg c2] at H; have c2b0 : decide (a0 < 0) = false := decide_eq_false c2; clear c2; replace H := Option.bind_eq_some_iff.mp H; obtain ⟨t206, A30, H⟩ := H; (try dsimp only at H); have A3 := Aside0.mk A30; clear A30; replace H := Option.bind_eq_some_iff.mp H; obtain ⟨t207, A40, H⟩ := H; (try dsimp only at H); have A4 := Aside0.mk A40; clear A40; have H' := Aside0.mk H; clear H
  go_enter Tryz.func85, Tryz.ntmps85
  go_wp2_with (first | ((with_reducible refine gate_callee (f := 154) rfl ?_); refine gc_ (some 10) Tryz.func154 (fuseeref43_digits.calls k (wrap64 (Int.tdiv a0 1000000000)) t206 _ A3.out) ?_; rintro e w' ⟨rfl, ⟨nd, rfl⟩⟩; refine ⟨_, rfl, ?_⟩) | ((with_reducible refine gate_callee (f := 99) rfl ?_); refine gc_ (some 13) Tryz.func99 (fuseeref07_Two.calls k (Int.tmod a0 1000000000) 9 t207 _ A4.out) ?_; rintro e w' ⟨rfl, ⟨nd, rfl⟩⟩; refine ⟨_, rfl, ?_⟩))
  go_loopg [5] k (fun kq v5 w' => ∃ (x5_1 : ByteArray), v5 = .string x5_1 ∧ Aside0 (fuseeref43_Length.l0 kq t206 x5_1 = some (r1, r2)) ∧ Aside0 (kq ≤ k) ∧ Drawn0 w w')
  case atStart => exact ⟨(t207), rs_, H', ⟨Nat.le_refl _⟩, by repeat (first | exact Drawn0.refl _ | apply Drawn0.step)⟩
  case round =>
   clear H'; (try clear c1); (try clear c2); (try clear c2b0); (try clear p2); obtain ⟨x5_1, rfl, HA, HK1, ⟨m1, rfl⟩⟩ := hrel
   cases gk with
   | zero => exact absurd HA.out (by simp [fuseeref43_Length.l0])
   | succ k1 =>
    have H := HA.out; clear HA; simp only [fuseeref43_Length.l0] at H
    by_cases c5 : (x5_1.size : Int) > 0
    ·rw [if_pos c5] at H; have c5b0 : decide (0 < (x5_1.size : Int)) = true := decide_eq_true c5; have c5b1 : decide (0 < x5_1.size) = true := decide_eq_true (by omega); clear c5
     obtain ⟨ji6, hji6⟩ : ∃ j_ : Int, (wrap64 ((x5_1.size : Int) - 1)) = j_ := ⟨_, rfl⟩
     replace H : (if 0 ≤ (ji6) then (if (ji6) < (x5_1.size : Int) then (if (bt x5_1 (ji6)) = 48 then (if (ji6) ≤ (x5_1.size : Int) then (fuseeref43_Length.l0 k1 t206 (x5_1.extract 0 ((ji6) : Int).toNat)) else (none)) else (if x5_1.toList = ([] : List UInt8) then (if t206.size + 1 ≤ 9223372036854775807 then (some (t206 ++ (⟨#[115]⟩ : ByteArray), 0)) else (none)) else (if t206.size + 1 ≤ 9223372036854775807 then (if (t206 ++ (⟨#[46]⟩ : ByteArray)).size + x5_1.size ≤ 9223372036854775807 then (if ((t206 ++ (⟨#[46]⟩ : ByteArray)) ++ x5_1).size + 1 ≤ 9223372036854775807 then (some (((t206 ++ (⟨#[46]⟩ : ByteArray)) ++ x5_1) ++ (⟨#[115]⟩ : ByteArray), 0)) else (none)) else (none)) else (none)))) else (none)) else (none)) = some (r1, r2) := by first | (rw [hji6] at H; exact H) | (simp only [hji6] at H ⊢; exact H)
     have hji6w : (IntKind.i64.wrap ((x5_1.size : Int) - 1)) = ji6 := (i64_w _).trans hji6
     by_cases c7 : 0 ≤ (ji6)
     ·rw [if_pos c7] at H; have c7b0 : decide (0 ≤ (ji6)) = true := decide_eq_true c7; clear c7
      by_cases c8 : (ji6) < (x5_1.size : Int)
      ·rw [if_pos c8] at H; have c8b0 : decide ((ji6) < (x5_1.size : Int)) = true := decide_eq_true c8; clear c8
       by_cases c10 : (bt x5_1 (ji6)) = 48
       ·rw [if_pos c10] at H; have c10b0 : ((bt x5_1 (ji6)) == 48) = true := beq_iff_eq.mpr c10; have c10b1 : ((bt x5_1 (ji6)) != 48) = false := bne_eq_false_iff_eq.mpr c10; clear c10; have c11b0 := eq_true (of_decide_eq_true as_ : 0 ≤ (ji6))
        by_cases c12 : (ji6) ≤ (x5_1.size : Int)
        ·rw [if_pos c12] at H; have c12b0 := eq_true c12; have c12b1 : decide ((ji6) ≤ (x5_1.size : Int)) = true := decide_eq_true c12; clear c12; have H' := Aside0.mk H; clear H; have p9 : 0 ≤ ((ji6) : Int) := of_decide_eq_true as_; have q9 : (ji6) < (x5_1.size : Int) := of_decide_eq_true as_; have hx9 := bt_at x5_1 (ji6); replace p9 := eq_true p9; replace q9 := eq_true q9
         go_wp2
         go_roundg k1
         case measure => have := HK1.out; omega
         case rel => exact ⟨(x5_1.extract 0 ((ji6) : Int).toNat), (by first | rfl | (simp; done) | (simp only [← hji6] <;> (first | rfl | simp)) | (simp [*]; done)), H', ⟨by have := HK1.out; omega⟩, by repeat (first | exact Drawn0.refl _ | apply Drawn0.step)⟩
        ·rw [if_neg c12] at H; exact absurd H (by simp)
       ·rw [if_neg c10] at H; have c10b0 : ((bt x5_1 (ji6)) == 48) = false := beq_eq_false_iff_ne.mpr c10; have c10b1 : ((bt x5_1 (ji6)) != 48) = true := bne_iff_ne.mpr c10
        by_cases c13 : x5_1.toList = ([] : List UInt8)
        ·rw [if_pos c13] at H; have c13b0 : (x5_1.toList == ([] : List UInt8)) = true := beq_iff_eq.mpr c13; have c13b1 : (x5_1.toList != ([] : List UInt8)) = false := bne_eq_false_iff_eq.mpr c13; clear c13
         by_cases c14 : t206.size + 1 ≤ 9223372036854775807
         ·rw [if_pos c14] at H; have c14b0 := eq_true c14; have c14b1 : decide (t206.size + 1 ≤ 9223372036854775807) = true := decide_eq_true c14
          try have c14b2 : (9223372036854775807 < t206.size + 1) = False := eq_false (Nat.not_lt.2 c14)
          simp only [Option.some.injEq, Prod.mk.injEq] at H; obtain ⟨rfl, rfl⟩ := H; have p9 : 0 ≤ ((ji6) : Int) := of_decide_eq_true as_; have q9 : (ji6) < (x5_1.size : Int) := of_decide_eq_true as_; have hx9 := bt_at x5_1 (ji6); replace p9 := eq_true p9; replace q9 := eq_true q9
          go_wp2
          go_ret2
          exact ⟨by first | rfl | (simp; done) | (simp only [← hji6] <;> (first | rfl | simp)) | (simp [*]; done), by repeat (first | exact Drawn0.refl _ | apply Drawn0.step)⟩
         ·rw [if_neg c14] at H; exact absurd H (by simp)
        ·rw [if_neg c13] at H; have c13b0 : (x5_1.toList == ([] : List UInt8)) = false := beq_eq_false_iff_ne.mpr c13; have c13b1 : (x5_1.toList != ([] : List UInt8)) = true := bne_iff_ne.mpr c13
         by_cases c15 : t206.size + 1 ≤ 9223372036854775807
         ·rw [if_pos c15] at H; have c15b0 := eq_true c15; have c15b1 : decide (t206.size + 1 ≤ 9223372036854775807) = true := decide_eq_true c15
          try have c15b2 : (9223372036854775807 < t206.size + 1) = False := eq_false (Nat.not_lt.2 c15)
          by_cases c16 : (t206 ++ (⟨#[46]⟩ : ByteArray)).size + x5_1.size ≤ 9223372036854775807
          ·rw [if_pos c16] at H; have c16b0 := eq_true c16; have c16b1 : decide ((t206 ++ (⟨#[46]⟩ : ByteArray)).size + x5_1.size ≤ 9223372036854775807) = true := decide_eq_true c16
           try have c16b2 : (9223372036854775807 < (t206 ++ (⟨#[46]⟩ : ByteArray)).size + x5_1.size) = False := eq_false (Nat.not_lt.2 c16)
           try have c16b3 : (9223372036854775807 < t206.size + 1 + x5_1.size) = False := eq_false (by have q_ := c16; simp only [ByteArray.size_append] at q_; exact Nat.not_lt.2 q_)
           by_cases c17 : ((t206 ++ (⟨#[46]⟩ : ByteArray)) ++ x5_1).size + 1 ≤ 9223372036854775807
           ·rw [if_pos c17] at H; have c17b0 := eq_true c17; have c17b1 : decide (((t206 ++ (⟨#[46]⟩ : ByteArray)) ++ x5_1).size + 1 ≤ 9223372036854775807) = true := decide_eq_true c17
            try have c17b2 : (9223372036854775807 < ((t206 ++ (⟨#[46]⟩ : ByteArray)) ++ x5_1).size + 1) = False := eq_false (Nat.not_lt.2 c17)
            try have c17b3 : (9223372036854775807 < t206.size + 1 + x5_1.size + 1) = False := eq_false (by have q_ := c17; simp only [ByteArray.size_append] at q_; exact Nat.not_lt.2 q_)
            simp only [Option.some.injEq, Prod.mk.injEq] at H; obtain ⟨rfl, rfl⟩ := H; have p9 : 0 ≤ ((ji6) : Int) := of_decide_eq_true as_; have q9 : (ji6) < (x5_1.size : Int) := of_decide_eq_true as_; have hx9 := bt_at x5_1 (ji6); replace p9 := eq_true p9; replace q9 := eq_true q9
            go_wp2
            go_ret2
            exact ⟨by first | rfl | (simp; done) | (simp only [← hji6] <;> (first | rfl | simp)) | (simp [*]; done), by repeat (first | exact Drawn0.refl _ | apply Drawn0.step)⟩
           ·rw [if_neg c17] at H; exact absurd H (by simp)
          ·rw [if_neg c16] at H; exact absurd H (by simp)
         ·rw [if_neg c15] at H; exact absurd H (by simp)
      ·rw [if_neg c8] at H; exact absurd H (by simp)
     ·rw [if_neg c7] at H; exact absurd H (by simp)
    ·rw [if_neg c5] at H; have c5b0 : decide (0 < (x5_1.size : Int)) = false := decide_eq_false c5; have c5b1 : decide (0 < x5_1.size) = false := decide_eq_false (by omega); clear c5
     by_cases c18 : x5_1.toList = ([] : List UInt8)
     ·rw [if_pos c18] at H; have c18b0 : (x5_1.toList == ([] : List UInt8)) = true := beq_iff_eq.mpr c18; have c18b1 : (x5_1.toList != ([] : List UInt8)) = false := bne_eq_false_iff_eq.mpr c18; clear c18
      by_cases c19 : t206.size + 1 ≤ 9223372036854775807
      ·rw [if_pos c19] at H; have c19b0 := eq_true c19; have c19b1 : decide (t206.size + 1 ≤ 9223372036854775807) = true := decide_eq_true c19
       try have c19b2 : (9223372036854775807 < t206.size + 1) = False := eq_false (Nat.not_lt.2 c19)
       simp only [Option.some.injEq, Prod.mk.injEq] at H; obtain ⟨rfl, rfl⟩ := H
       go_wp2
       go_ret2
       exact ed_
      ·rw [if_neg c19] at H; exact absurd H (by simp)
     ·rw [if_neg c18] at H; have c18b0 : (x5_1.toList == ([] : List UInt8)) = false := beq_eq_false_iff_ne.mpr c18; have c18b1 : (x5_1.toList != ([] : List UInt8)) = true := bne_iff_ne.mpr c18
      by_cases c20 : t206.size + 1 ≤ 9223372036854775807
      ·rw [if_pos c20] at H; have c20b0 := eq_true c20; have c20b1 : decide (t206.size + 1 ≤ 9223372036854775807) = true := decide_eq_true c20
       try have c20b2 : (9223372036854775807 < t206.size + 1) = False := eq_false (Nat.not_lt.2 c20)
       by_cases c21 : (t206 ++ (⟨#[46]⟩ : ByteArray)).size + x5_1.size ≤ 9223372036854775807
       ·rw [if_pos c21] at H; have c21b0 := eq_true c21; have c21b1 : decide ((t206 ++ (⟨#[46]⟩ : ByteArray)).size + x5_1.size ≤ 9223372036854775807) = true := decide_eq_true c21
        try have c21b2 : (9223372036854775807 < (t206 ++ (⟨#[46]⟩ : ByteArray)).size + x5_1.size) = False := eq_false (Nat.not_lt.2 c21)
        try have c21b3 : (9223372036854775807 < t206.size + 1 + x5_1.size) = False := eq_false (by have q_ := c21; simp only [ByteArray.size_append] at q_; exact Nat.not_lt.2 q_)
        by_cases c22 : ((t206 ++ (⟨#[46]⟩ : ByteArray)) ++ x5_1).size + 1 ≤ 9223372036854775807
        ·rw [if_pos c22] at H; have c22b0 := eq_true c22; have c22b1 : decide (((t206 ++ (⟨#[46]⟩ : ByteArray)) ++ x5_1).size + 1 ≤ 9223372036854775807) = true := decide_eq_true c22
         try have c22b2 : (9223372036854775807 < ((t206 ++ (⟨#[46]⟩ : ByteArray)) ++ x5_1).size + 1) = False := eq_false (Nat.not_lt.2 c22)
         try have c22b3 : (9223372036854775807 < t206.size + 1 + x5_1.size + 1) = False := eq_false (by have q_ := c22; simp only [ByteArray.size_append] at q_; exact Nat.not_lt.2 q_)
         simp only [Option.some.injEq, Prod.mk.injEq] at H; obtain ⟨rfl, rfl⟩ := H
         go_wp2
         go_ret2
         exact ed_
        ·rw [if_neg c22] at H; exact absurd H (by simp)
       ·rw [if_neg c21] at H; exact absurd H (by simp)
      ·rw [if_neg c20] at H; exact absurd H (by simp)
end Go.Proofs.YtfjifhkgifefeaaGreatDoor.PT
end

section
/- Lengths as texts, and told.Length, told.Long. -/
namespace Go.Proofs.YtfjifhkgifefeaaGreatDoor.CivP
open Go.RowKit Go.Proofs.YtfjifhkgifefeaaGreatDoor.PA Go.Proofs.YtfjifhkgifefeaaGreatDoor.PT Go.Proofs.YtfjifhkgifefeaaGreatDoor.CivM Go.Proofs.YtfjifhkgifefeaaGreatDoor.StrM Go.Proofs.YtfjifhkgifefeaaGreatDoor.Giv Go.Proofs.YtfjifhkgifefeaaGreatDoorW.PrintWords
theorem trim_snoc (l : List UInt8) (c : UInt8) : Lib.trimRightB (l ++ [c]) 48 = if c = 48 then Lib.trimRightB l 48 else l ++ [c] := by
  unfold Lib.trimRightB
  rw [List.reverse_append]; simp only [List.reverse_cons, List.reverse_nil, List.nil_append, List.singleton_append]
  by_cases h : c = 48
  · rw [if_pos h, List.dropWhile_cons_of_pos (by simpa using h)]
  · rw [if_neg h, List.dropWhile_cons_of_neg (by simpa using h)]
    simp
theorem trim_nil : Lib.trimRightB [] 48 = [] := rfl
theorem trim_rep (l : List UInt8) : ∃ k, l = Lib.trimRightB l 48 ++ List.replicate k 48 ∧ l.length = (Lib.trimRightB l 48).length + k := by
  refine snoc_ind (P := fun l => ∃ k, l = Lib.trimRightB l 48 ++ List.replicate k 48 ∧ l.length = (Lib.trimRightB l 48).length + k) ⟨0, by simp [trim_nil], by simp [trim_nil]⟩ (fun l c ih => ?_) l
  obtain ⟨k, e, el⟩ := ih; rw [trim_snoc]
  by_cases h : c = 48
  · rw [if_pos h]
    refine ⟨k + 1, ?_, by rw [List.length_append, el]; simp; omega⟩
    rw [h, List.replicate_succ', ← List.append_assoc, ← e]
  · rw [if_neg h]; exact ⟨0, by simp, by simp⟩
theorem trim_last (l : List UInt8) : Lib.trimRightB l 48 = [] ∨ ∃ a c, Lib.trimRightB l 48 = a ++ [c] ∧ c ≠ 48 := by
  refine snoc_ind (P := fun l => Lib.trimRightB l 48 = [] ∨ ∃ a c, Lib.trimRightB l 48 = a ++ [c] ∧ c ≠ 48) (.inl rfl) (fun l c ih => ?_) l
  rw [trim_snoc]
  by_cases h : c = 48
  · rw [if_pos h]; exact ih
  · rw [if_neg h]; exact .inr ⟨l, c, rfl, h⟩
theorem trim_app (a : List UInt8) (c : UInt8) (h : c ≠ 48) (k : Nat) : Lib.trimRightB ((a ++ [c]) ++ List.replicate k 48) 48 = a ++ [c] := by
  induction k with
  | zero => rw [List.replicate_zero, List.append_nil, trim_snoc, if_neg h]
  | succ k ih => rw [List.replicate_succ', ← List.append_assoc, trim_snoc, if_pos rfl, ih]
def fracT (m : Int) : List UInt8 := if Lib.trimRightB (digs 9 m) 48 = [] then [] else 46 :: Lib.trimRightB (digs 9 m) 48
def lengthT (n : Int) : List UInt8 := Lib.itoa (n / 1000000000) ++ (fracT (n % 1000000000) ++ [115])
theorem itoa_ge (n : Int) (h0 : 0 ≤ n) (h1 : n ≤ 9223372036854775807) : 1 ≤ (Lib.itoa n).length ∧ (Lib.itoa n).length ≤ 19 := by
  obtain ⟨u, rfl⟩ : ∃ u : Nat, n = u := ⟨n.toNat, by omega⟩
  unfold Lib.itoa
  rw [if_neg (by omega), Int.toNat_natCast]
  exact dec_len 18 u (by have : (10 : Nat) ^ (18 + 1) = 10000000000000000000 := by decide
                         omega)
theorem trim_len (l : List UInt8) : (Lib.trimRightB l 48).length ≤ l.length := by
  obtain ⟨k, -, e⟩ := trim_rep l; omega
theorem fracT_len (m : Int) : (fracT m).length ≤ 10 := by
  unfold fracT
  have := trim_len (digs 9 m); rw [digs_len] at this
  split
  · simp
  · simp; omega
theorem lengthT_len (n : Int) (h0 : 0 ≤ n) (h1 : n ≤ 9223372036854775807) : 2 ≤ (lengthT n).length ∧ (lengthT n).length ≤ 30 := by
  unfold lengthT
  have a := itoa_ge (n / 1000000000) (by omega) (by omega); have b := fracT_len (n % 1000000000); simp only [List.length_append, List.length_cons, List.length_nil]
  omega
theorem tlength (n : Int) (h0 : 0 ≤ n) (h1 : n ≤ 9223372036854775807) : told_length.f n = some ⟨(lengthT n).toArray⟩ := by
  have a := itoa_ge (n / 1000000000) (by omega) (by omega)
  have hm : n % 1000000000 < 10 ^ (8 + 1) := by have : (10 : Int) ^ (8 + 1) = 1000000000 := by decide
                                                omega
  have hl := itoa_le 8 (n % 1000000000) (by omega) hm; have hp := padded_eq 8 (n % 1000000000) (by omega) hm
  unfold padded at hp
  unfold told_length.f strconv_FormatInt.f
  rw [tdv h0, tmd h0, wid (by omega) (by omega), if_pos ⟨rfl, by omega, by omega⟩, if_pos ⟨rfl, by omega, by omega⟩]; simp only [Option.bind_some, ba_size]; rw [wid (by omega) (by omega)]
  unfold strings_Repeat.f
  have e1 : (9 - ((Lib.itoa (n % 1000000000)).length : Int)).toNat = 8 + 1 - (Lib.itoa (n % 1000000000)).length := by omega
  have e2 : (⟨#[48]⟩ : ByteArray).size = 1 := rfl; have e5 : (⟨#[48]⟩ : ByteArray).data.toList = [48] := rfl; rw [e1, e2, e5, if_pos ⟨by omega, by omega, by omega⟩]; simp only [Option.bind_some]
  have e4 : (Lib.repeatL [48] (8 + 1 - (Lib.itoa (n % 1000000000)).length)).length = 1 * (8 + 1 - (Lib.itoa (n % 1000000000)).length) := by simp [Lib.repeatL_length]
  rw [ba_size, e4, if_pos (by omega), ba_app, hp]
  unfold strings_TrimRight.f
  rw [if_pos ⟨by rw [ba_size, digs_len]; omega, rfl⟩]; simp only [Option.bind_some]; have tl := trim_len (digs 9 (n % 1000000000)); rw [digs_len] at tl; have b115 : (⟨#[115]⟩ : ByteArray) = ⟨([115] : List UInt8).toArray⟩ := rfl; have b46 : (⟨#[46]⟩ : ByteArray) = ⟨([46] : List UInt8).toArray⟩ := rfl; rw [ByteArray.toList_eq, b115, b46]
  show (if Lib.trimRightB (digs 9 (n % 1000000000)) 48 = [] then _ else _) = _
  by_cases z : Lib.trimRightB (digs 9 (n % 1000000000)) 48 = []
  · rw [if_pos z, if_pos (by omega), ba_app]
    unfold lengthT fracT
    rw [if_pos z, List.nil_append]
  · rw [if_neg z, if_pos (by omega), ba_app, ba_size, if_pos (by rw [ba_size]; simp; omega), ba_app, ba_size, if_pos (by simp; omega), ba_app]
    unfold lengthT fracT
    rw [if_neg z]
    simp
theorem tLength (n : Int) (h0 : 0 ≤ n) (h1 : n ≤ 9223372036854775807) : told_Length.f n = some (⟨(lengthT n).toArray⟩, none) := by
  unfold told_Length.f
  rw [if_neg (by omega), tlength n h0 h1]; rfl
theorem tLength_neg (n : Int) (h : n < 0) : told_Length.f n = some (⟨#[]⟩, some 1) := by
  unfold told_Length.f; rw [if_pos h]
theorem dig1 (x : Int) (h0 : 0 ≤ x) (h1 : x ≤ 9) : (⟨#[48, 49, 50, 51, 52, 53, 54, 55, 56, 57]⟩ : ByteArray).extract x.toNat (x + 1).toNat = ⟨([dg x] : List UInt8).toArray⟩ := by
  obtain ⟨u, rfl⟩ : ∃ u : Nat, x = u := ⟨x.toNat, by omega⟩
  have hu : u < 10 := by omega
  have H : ∀ v : Fin 10, ((⟨#[48, 49, 50, 51, 52, 53, 54, 55, 56, 57]⟩ : ByteArray).extract v.val (v.val + 1)).data.toList = [dg (v.val : Int)] := by decide +kernel
  have h2 := H ⟨u, hu⟩; rw [show ((u : Int) + 1).toNat = u + 1 by omega, Int.toNat_natCast]
  apply ByteArray.ext
  apply Array.toList_inj.1
  exact h2
theorem rdg (w : Nat) : ∀ (k : Nat) (x : Int) (l : List UInt8), w + 2 ≤ k → 0 ≤ x → x ≤ 9223372036854775807 → x < 10 ^ w → w + l.length ≤ 100 →
    fuseeref43_digits.l0 k x ⟨l.toArray⟩ = some ⟨((if x > 0 then Lib.decDigits x.toNat else if l = [] then [48] else []) ++ l).toArray⟩ := by
  have END : ∀ (k : Nat) (l : List UInt8), l ≠ [] → fuseeref43_digits.l0 (k + 1) 0 ⟨l.toArray⟩ = some ⟨l.toArray⟩ := by
    intro k l hl
    simp only [fuseeref43_digits.l0]; rw [if_neg (by omega), if_neg (by rw [ByteArray.toList_eq]; exact hl)]
  have ZERO : ∀ k, fuseeref43_digits.l0 (k + 1) 0 ⟨([] : List UInt8).toArray⟩ = fuseeref43_digits.l0 k 0 ⟨([48] : List UInt8).toArray⟩ := by
    intro k
    conv => lhs; simp only [fuseeref43_digits.l0]
    rw [if_neg (by omega), if_pos (by rw [ByteArray.toList_eq]), show Int.tmod 0 10 = 0 from rfl, wid (x := 0 + 1) (by omega) (by omega), if_pos (by omega), if_pos (by omega), if_pos (by omega), dig1 0 (by omega) (by omega), if_pos (by rw [ba_size, ba_size]; simp), ba_app, show Int.tdiv 0 10 = 0 from rfl, wid (by omega) (by omega)]
    rfl
  induction w with
  | zero =>
    intro k x l hk h0 _ h1 hl
    have x0 : x = 0 := by have : (10 : Int) ^ 0 = 1 := rfl
                          omega
    subst x0
    obtain ⟨k, rfl⟩ : ∃ j, k = j + 2 := ⟨k - 2, by omega⟩
    rw [if_neg (by omega)]
    by_cases e : l = []
    · subst e; rw [if_pos rfl]; rw [ZERO (k + 1), END k _ (by simp)]; rfl
    · rw [if_neg e, END (k + 1) l e]; rfl
  | succ w ih =>
    intro k x l hk h0 hx h1 hl
    obtain ⟨k, rfl⟩ : ∃ j, k = j + 1 := ⟨k - 1, by omega⟩
    by_cases c : x > 0
    · rw [if_pos c]
      conv => lhs; simp only [fuseeref43_digits.l0]
      have p10 : (10 : Int) ^ (w + 1) = 10 ^ w * 10 := by rw [Int.pow_succ]
      have t1 : Int.tmod x 10 = x % 10 := tmd h0; rw [if_pos c, t1, wid (x := x % 10 + 1) (by omega) (by omega), if_pos (by omega), if_pos (by omega), if_pos (by omega), dig1 _ (by omega) (by omega), if_pos (by rw [ba_size, ba_size]; simp; omega), ba_app, tdv h0, wid (by omega) (by omega)]; rw [ih k (x / 10) _ (by omega) (by omega) (by omega) (by omega) (by simp; omega)]
      obtain ⟨u, rfl⟩ : ∃ u : Nat, x = u := ⟨x.toNat, by omega⟩
      rw [Int.toNat_natCast]
      by_cases d : (u : Int) / 10 > 0
      · rw [if_pos d, show ((u : Int) / 10).toNat = u / 10 by omega]; rw [Lib.decDigits.eq_def u, dif_neg (by omega)]
        have e9 : dg ((u : Int) % 10) = UInt8.ofNat (48 + u % 10) := by unfold dg; congr 2
        rw [e9]; simp
      · rw [if_neg d, if_neg (by simp), dd1 u (by omega), show (u : Int) % 10 = u by omega]
        rfl
    · have x0 : x = 0 := by omega
      subst x0
      exact ih (k + 1) 0 l (by omega) (by omega) (by omega) (by exact Int.pow_pos (by omega)) (by omega)
theorem rdigits (k : Nat) (n : Int) (hk : 25 ≤ k) (h0 : 0 ≤ n) (h1 : n ≤ 9223372036854775807) : fuseeref43_digits.f k n = some ⟨(Lib.itoa n).toArray⟩ := by
  unfold fuseeref43_digits.f
  have h := rdg 19 k n [] (by omega) h0 h1 (by have : (10 : Int) ^ 19 = 10000000000000000000 := by decide
                                               omega) (by simp)
  refine h.trans ?_
  obtain ⟨u, rfl⟩ : ∃ u : Nat, n = u := ⟨n.toNat, by omega⟩
  unfold Lib.itoa
  rw [if_neg (by omega : ¬ (u : Int) < 0), Int.toNat_natCast]
  by_cases c : (u : Int) > 0
  · rw [if_pos c, List.append_nil]
  · have : u = 0 := by omega
    subst this; rw [if_neg c, if_pos rfl, dd1 0 (by omega)]; rfl
theorem rLen_l (A : List UInt8) (hA : A.length ≤ 100) (l : List UInt8) : ∀ k, l.length ≤ 9 → l.length + 1 ≤ k →
    fuseeref43_Length.l0 k ⟨A.toArray⟩ ⟨l.toArray⟩ = some (⟨(A ++ ((if Lib.trimRightB l 48 = [] then [] else 46 :: Lib.trimRightB l 48) ++ [115])).toArray⟩, 0) := by
  have b115 : (⟨#[115]⟩ : ByteArray) = ⟨([115] : List UInt8).toArray⟩ := rfl; have b46 : (⟨#[46]⟩ : ByteArray) = ⟨([46] : List UInt8).toArray⟩ := rfl
  have TAIL : ∀ l : List UInt8, l.length ≤ 9 → (if (⟨l.toArray⟩ : ByteArray).toList = ([] : List UInt8) then (if (⟨A.toArray⟩ : ByteArray).size + 1 ≤ 9223372036854775807 then (some ((⟨A.toArray⟩ : ByteArray) ++ (⟨#[115]⟩ : ByteArray), (0 : Int))) else (none)) else (if (⟨A.toArray⟩ : ByteArray).size + 1 ≤ 9223372036854775807 then (if ((⟨A.toArray⟩ : ByteArray) ++ (⟨#[46]⟩ : ByteArray)).size + (⟨l.toArray⟩ : ByteArray).size ≤ 9223372036854775807 then (if (((⟨A.toArray⟩ : ByteArray) ++ (⟨#[46]⟩ : ByteArray)) ++ (⟨l.toArray⟩ : ByteArray)).size + 1 ≤ 9223372036854775807 then (some ((((⟨A.toArray⟩ : ByteArray) ++ (⟨#[46]⟩ : ByteArray)) ++ (⟨l.toArray⟩ : ByteArray)) ++ (⟨#[115]⟩ : ByteArray), (0 : Int))) else (none)) else (none)) else (none))) = some (⟨(A ++ ((if l = [] then [] else 46 :: l) ++ [115])).toArray⟩, 0) := by
    intro l hl
    rw [ByteArray.toList_eq, b115, b46]
    show (if l = [] then _ else _) = _
    by_cases z : l = []
    · rw [if_pos z, if_pos (by rw [ba_size]; omega), ba_app, if_pos z]; rfl
    · rw [if_neg z, if_pos (by rw [ba_size]; omega), ba_app, if_pos (by rw [ba_size, ba_size]; simp; omega), ba_app, if_pos (by rw [ba_size]; simp; omega), ba_app, if_neg z]
      simp
  refine snoc_ind (P := fun l => ∀ k, l.length ≤ 9 → l.length + 1 ≤ k → fuseeref43_Length.l0 k ⟨A.toArray⟩ ⟨l.toArray⟩ = some (⟨(A ++ ((if Lib.trimRightB l 48 = [] then [] else 46 :: Lib.trimRightB l 48) ++ [115])).toArray⟩, 0)) ?_ ?_ l
  · intro k _ hk
    obtain ⟨k, rfl⟩ : ∃ j, k = j + 1 := ⟨k - 1, by omega⟩
    simp only [fuseeref43_Length.l0]; rw [if_neg (by rw [ba_size]; simp)]
    exact TAIL [] (by simp)
  · intro l c ih k hl hk
    obtain ⟨k, rfl⟩ : ∃ j, k = j + 1 := ⟨k - 1, by omega⟩
    have hl' : l.length + 1 ≤ 9 := by simpa using hl
    have hk' : l.length + 1 ≤ k := by simpa using hk
    have sz : (((⟨(l ++ [c]).toArray⟩ : ByteArray).size : Nat) : Int) = l.length + 1 := by rw [ba_size]; simp
    conv => lhs; simp only [fuseeref43_Length.l0]
    rw [sz, wid (x := (l.length : Int) + 1 - 1) (by omega) (by omega), if_pos (by omega), if_pos (by omega), if_pos (by omega), show (l.length : Int) + 1 - 1 = (l.length : Int) by omega]; rw [bt_eq (l ++ [c]) l [] c rfl _ rfl]; rw [trim_snoc]
    by_cases h : c = 48
    · rw [if_pos (by rw [h]; rfl), if_pos (by omega), if_pos h]; have ex : (⟨(l ++ [c]).toArray⟩ : ByteArray).extract 0 ((l.length : Int)).toNat = ⟨l.toArray⟩ := ext_eq _ [] l [c] rfl 0 _ rfl (by simp); rw [ex]
      exact ih k (by omega) hk'
    · rw [if_neg (fun e => h (UInt8.toNat_inj.1 (by have : (48 : UInt8).toNat = 48 := rfl; omega))), if_neg h]
      exact TAIL (l ++ [c]) hl
theorem rLength (k : Nat) (n : Int) (hk : 30 ≤ k) (h0 : 0 ≤ n) (h1 : n ≤ 9223372036854775807) : fuseeref43_Length.f k n = some (⟨(lengthT n).toArray⟩, 0) := by
  unfold fuseeref43_Length.f
  have a := itoa_ge (n / 1000000000) (by omega) (by omega); have t2 : fuseeref07_Two.f k (n % 1000000000) 9 = some ⟨(digs 9 (n % 1000000000)).toArray⟩ := two_w k 9 (n % 1000000000) (by omega) (by omega) (by omega) (by omega); rw [if_neg (by omega), tdv h0, tmd h0, wid (by omega) (by omega), rdigits k _ (by omega) (by omega) (by omega), t2]; simp only [Option.bind_some]; rw [rLen_l _ (by omega) _ k (by rw [digs_len]; omega) (by rw [digs_len]; omega)]
  rfl
theorem rLength_neg (k : Nat) (n : Int) (h : n < 0) : fuseeref43_Length.f k n = some (⟨#[]⟩, 1) := by
  unfold fuseeref43_Length.f; rw [if_pos h]
end Go.Proofs.YtfjifhkgifefeaaGreatDoor.CivP
end

section
/- told.Long: the length of a text. -/
namespace Go.Proofs.YtfjifhkgifefeaaGreatDoor.CivP
open Go.RowKit Go.Proofs.YtfjifhkgifefeaaGreatDoor.PA Go.Proofs.YtfjifhkgifefeaaGreatDoor.PT Go.Proofs.YtfjifhkgifefeaaGreatDoor.CivM Go.Proofs.YtfjifhkgifefeaaGreatDoor.StrM Go.Proofs.YtfjifhkgifefeaaGreatDoor.Giv Go.Proofs.YtfjifhkgifefeaaGreatDoorW.PrintWords
theorem idx_none (c : UInt8) : ∀ l : List UInt8, c ∉ l → Lib.index l [c] = -1
  | [], _ => by rw [Lib.index]; simp [List.isPrefixOf]
  | b :: l, h => by
    simp only [List.mem_cons, not_or] at h
    have hp : ([c] : List UInt8).isPrefixOf (b :: l) = false := by simp [List.isPrefixOf, h.1]
    rw [Lib.index, hp]
    simp [idx_none c l h.2]
theorem idx_hit (c : UInt8) (t : List UInt8) : ∀ a : List UInt8, c ∉ a → Lib.index (a ++ c :: t) [c] = a.length
  | [], _ => by rw [List.nil_append, Lib.index]; simp [List.isPrefixOf]
  | b :: a, h => by
    simp only [List.mem_cons, not_or] at h
    have hp : ([c] : List UInt8).isPrefixOf (b :: (a ++ c :: t)) = false := by simp [List.isPrefixOf, h.1]
    rw [List.cons_append, Lib.index, hp]; have := idx_hit c t a h.2; simp only [Bool.false_eq_true, if_false, this]; rw [if_neg (by simp)]
    simp
theorem cut_none (c : UInt8) (l : List UInt8) (h : c ∉ l) : Lib.cut l [c] = (l, [], false) := by
  unfold Lib.cut; rw [idx_none c l h, if_neg (by omega)]
theorem cut_hit (c : UInt8) (a t : List UInt8) (h : c ∉ a) : Lib.cut (a ++ c :: t) [c] = (a, t, true) := by
  unfold Lib.cut
  rw [idx_hit c t a h, if_pos (by omega), Int.toNat_natCast]
  simp
theorem cut_len (l p : List UInt8) : (Lib.cut l p).1.length ≤ l.length ∧ (Lib.cut l p).2.1.length ≤ l.length := by
  unfold Lib.cut
  split
  · simp; omega
  · simp
theorem suf_yes (b : List UInt8) (c : UInt8) : Lib.hasSuffix (b ++ [c]) [c] = true ∧ Lib.trimSuffix (b ++ [c]) [c] = b := by
  have h : Lib.hasSuffix (b ++ [c]) [c] = true := by unfold Lib.hasSuffix; simp
  refine ⟨h, ?_⟩
  unfold Lib.trimSuffix
  rw [if_pos h]; simp
theorem suf_len (l p : List UInt8) : (Lib.trimSuffix l p).length ≤ l.length := by
  unfold Lib.trimSuffix
  split
  · simp
  · exact Nat.le_refl _
theorem dec_all (w u : Nat) (h : u < 10 ^ (w + 1)) : (Lib.decDigits u).all dgt = true := by
  have h1 := digs_all (w + 1) u (by omega); rw [← padded_digs w u h, List.all_append] at h1; simp only [Bool.and_eq_true] at h1
  exact h1.2
theorem decv_zeros (k : Nat) (l : List UInt8) : decv (List.replicate k 48 ++ l) = decv l := by
  induction k with
  | zero => rfl
  | succ k ih =>
    rw [List.replicate_succ, List.cons_append]
    have : decv (48 :: (List.replicate k 48 ++ l)) = decv (List.replicate k 48 ++ l) := by
      unfold decv
      rw [List.foldl_cons]
      rfl
    rw [this, ih]
theorem itoa_all (n : Int) (h0 : 0 ≤ n) (h1 : n ≤ 9223372036854775807) : (Lib.itoa n).all dgt = true := by
  obtain ⟨u, rfl⟩ : ∃ u : Nat, n = u := ⟨n.toNat, by omega⟩
  unfold Lib.itoa
  rw [if_neg (by omega), Int.toNat_natCast]
  exact dec_all 18 u (by have : (10 : Nat) ^ (18 + 1) = 10000000000000000000 := by decide
                         omega)
theorem itoa_val (n : Int) (h0 : 0 ≤ n) (h1 : n ≤ 9223372036854775807) : decv (Lib.itoa n) = n := by
  obtain ⟨u, rfl⟩ : ∃ u : Nat, n = u := ⟨n.toNat, by omega⟩
  have hw : u < 10 ^ (18 + 1) := by have : (10 : Nat) ^ (18 + 1) = 10000000000000000000 := by decide
                                    omega
  unfold Lib.itoa
  rw [if_neg (by omega), Int.toNat_natCast]
  have h := decv_digs 19 (u : Int) h0 (by have : (10 : Int) ^ 19 = 10000000000000000000 := by decide
                                          omega)
  rw [← padded_digs 18 u hw, decv_zeros] at h
  exact h
theorem itoa_short (q : Int) (h0 : 0 ≤ q) (h1 : q ≤ 9223372036) : (Lib.itoa q).length ≤ 10 :=
  itoa_le 9 q h0 (by have : (10 : Int) ^ (9 + 1) = 10000000000 := by decide
                     omega)
theorem all_not (l : List UInt8) (c : UInt8) (h : l.all dgt = true) (hc : dgt c = false) : c ∉ l := by
  intro m
  rw [List.all_eq_true] at h; rw [h c m] at hc; cases hc
theorem pint64 (l : List UInt8) (hne : l ≠ []) (hl : l.length ≤ 18) (h : l.all dgt = true) : strconv_ParseInt.f ⟨l.toArray⟩ 10 64 = some (decv l, none) := by
  unfold strconv_ParseInt.f
  rw [if_pos ⟨rfl, .inl rfl, by rw [ba_size]; omega⟩, show (64 : Int).toNat = 64 from rfl, Lib.parseIntB_64]; rw [show (⟨l.toArray⟩ : ByteArray).data.toList = l from rfl, atoi_digits l hne hl h]
theorem pint64_some (s : ByteArray) (h : s.size ≤ 1000) : ∃ v r, strconv_ParseInt.f s 10 64 = some (v, r) := by
  unfold strconv_ParseInt.f
  rw [if_pos ⟨rfl, .inl rfl, by omega⟩]
  split <;> exact ⟨_, _, rfl⟩
theorem nmul_ok' (k : Nat) (a : Int) (h0 : 0 ≤ a) (h1 : a ≤ 9223372036) : num_Mul.f (k + 1) a 1000000000 = some (a * 1000000000, none) := by
  rw [nmul, wid (x := a * 1000000000) (by omega) (by omega), Int.mul_tdiv_cancel _ (by omega), wid (by omega) (by omega), if_pos rfl]
def IsLen (l : List UInt8) (n : Int) : Prop := 0 ≤ n ∧ n ≤ 9223372036854775807 ∧ l = lengthT n
def restT (m : Int) : List UInt8 := Lib.trimRightB (digs 9 m) 48
theorem restT_eq (m : Int) : restT m ++ List.replicate (9 - (restT m).length) 48 = digs 9 m ∧ (restT m).length ≤ 9 := by
  obtain ⟨k, e, el⟩ := trim_rep (digs 9 m); rw [digs_len] at el
  have : 9 - (restT m).length = k := by unfold restT; omega
  exact ⟨by rw [this]; exact e.symm, by unfold restT; omega⟩
theorem cut_body (q m : Int) (h0 : 0 ≤ q) (h1 : q ≤ 9223372036854775807) : ∃ b, Lib.cut (Lib.itoa q ++ fracT m) [46] = (Lib.itoa q, restT m, b) := by
  have hn : (46 : UInt8) ∉ Lib.itoa q := all_not _ 46 (itoa_all q h0 h1) rfl
  unfold fracT restT
  by_cases z : Lib.trimRightB (digs 9 m) 48 = []
  · rw [if_pos z, List.append_nil, z]; exact ⟨_, cut_none 46 _ hn⟩
  · rw [if_neg z]; exact ⟨_, cut_hit 46 _ _ hn⟩
theorem rep9 (l : List UInt8) (h : l.length ≤ 9) : strings_Repeat.f (⟨#[48]⟩ : ByteArray) (wrap64 (9 - ((⟨l.toArray⟩ : ByteArray).size : Int))) = some ⟨(List.replicate (9 - l.length) 48).toArray⟩ := by
  rw [ba_size, wid (by omega) (by omega)]
  unfold strings_Repeat.f
  have e1 : (9 - (l.length : Int)).toNat = 9 - l.length := by omega
  have e2 : (⟨#[48]⟩ : ByteArray).size = 1 := rfl; have e5 : (⟨#[48]⟩ : ByteArray).data.toList = [48] := rfl; rw [e1, e2, e5, if_pos ⟨by omega, by omega, by omega⟩, rep_eq]
theorem tlong_ok (k : Nat) (hk : 5 ≤ k) (l : List UInt8) (n : Int) (h : IsLen l n) : told_Long.f k ⟨l.toArray⟩ = some (n, none) := by
  obtain ⟨k, rfl⟩ : ∃ j, k = j + 2 := ⟨k - 2, by omega⟩
  obtain ⟨h0, h1, rfl⟩ := h; have hb := lengthT_len n h0 h1
  have el : lengthT n = (Lib.itoa (n / 1000000000) ++ fracT (n % 1000000000)) ++ [115] := by unfold lengthT; simp
  obtain ⟨s1, s2⟩ := suf_yes (Lib.itoa (n / 1000000000) ++ fracT (n % 1000000000)) 115; obtain ⟨b, hc⟩ := cut_body (n / 1000000000) (n % 1000000000) (by omega) (by omega); obtain ⟨re, rl⟩ := restT_eq (n % 1000000000); have ia := itoa_ge (n / 1000000000) (by omega) (by omega); have fl := fracT_len (n % 1000000000)
  unfold told_Long.f strings_CutSuffix.f
  rw [if_pos (by rw [ba_size]; omega)]; have e115 : (⟨#[115]⟩ : ByteArray).data.toList = [115] := rfl; have e46 : (⟨#[46]⟩ : ByteArray).data.toList = [46] := rfl; simp only [Option.bind_some]
  try rw [e115]
  rw [el, s1, s2]
  unfold strings_Cut.f
  rw [if_pos (by rw [ba_size]; simp; omega)]; simp only [Option.bind_some, if_true]
  try rw [e46]
  rw [hc, ← el]
  dsimp only
  rw [decide_eq_false (by rw [ba_size]; omega)]; simp only [told_Long.j0, Bool.false_eq_true, if_false]; rw [pint64 _ (fun e => by rw [e] at ia; simp at ia) (by have := itoa_short (n / 1000000000) (by omega) (by omega); omega) (itoa_all _ (by omega) (by omega)), itoa_val _ (by omega) (by omega)]; simp only [Option.bind_some, Option.isNone_none, if_true]; rw [if_pos (by rw [ba_size]; omega), rep9 _ rl]; simp only [Option.bind_some]; have b48 : (⟨#[48]⟩ : ByteArray) = ⟨([48] : List UInt8).toArray⟩ := rfl; rw [b48, ba_app, if_pos (by rw [ba_size, ba_size]; simp; omega), ba_app, List.append_assoc, re]; have D := digs_all 9 (n % 1000000000) (by omega); rw [pint64 _ (by simp) (by simp [digs_len]) (by rw [List.all_append, D]; rfl)]
  have dv1 : decv ([48] ++ digs 9 (n % 1000000000)) = n % 1000000000 := by
    have := decv_zeros 1 (digs 9 (n % 1000000000)); rw [show List.replicate 1 (48 : UInt8) = [48] from rfl] at this
    rw [this, decv_digs 9 _ (by omega) (by have : (10 : Int) ^ 9 = 1000000000 := by decide
                                           omega)]
  rw [dv1]; simp only [Option.bind_some, Option.isNone_none, if_true]; rw [nmul_ok' k _ (by omega) (by omega)]; simp only [Option.bind_some, Option.isNone_none, if_true]; rw [add_ok (by omega) (by omega) (by omega) (by omega), if_pos (by omega), show n / 1000000000 * 1000000000 + n % 1000000000 = n by omega]; simp only [Option.bind_some, Option.isNone_none, if_true]; rw [if_neg (by omega), tlength n h0 h1]; simp only [Option.bind_some, if_true]
theorem nadd_some (a b : Int) : ∃ r, num_Add.f a b = some r ∧ (r.2.isNone = true → i64 r.1) := by
  unfold num_Add.f
  split
  · exact ⟨_, rfl, fun h => by simp at h⟩
  · exact ⟨_, rfl, fun _ => i64_wrap _⟩
theorem tlong_no (k : Nat) (hk : 5 ≤ k) (l : List UInt8) (hl : l.length ≤ 100) (h : ∀ n, ¬ IsLen l n) : told_Long.f k ⟨l.toArray⟩ = some (0, some 3) := by
  obtain ⟨k, rfl⟩ : ∃ j, k = j + 2 := ⟨k - 2, by omega⟩
  have J : ∀ (a b c : ByteArray), told_Long.j0 (k + 2) a b c true = some (0, some 3) := fun _ _ _ => by simp [told_Long.j0]
  have e115 : (⟨#[115]⟩ : ByteArray).data.toList = [115] := rfl; have e46 : (⟨#[46]⟩ : ByteArray).data.toList = [46] := rfl
  unfold told_Long.f strings_CutSuffix.f
  rw [if_pos (by rw [ba_size]; omega)]; simp only [Option.bind_some]
  try rw [e115]
  have sl := suf_len l [115]
  generalize Lib.trimSuffix l [115] = body at sl ⊢
  generalize Lib.hasSuffix l [115] = is
  unfold strings_Cut.f
  rw [if_pos (by rw [ba_size]; omega)]; simp only [Option.bind_some]
  try rw [e46]
  have cl := cut_len body [46]
  try rw [show (⟨body.toArray⟩ : ByteArray).data.toList = body from rfl]
  generalize (Lib.cut body [46]).1 = W at cl ⊢
  generalize (Lib.cut body [46]).2.1 = R at cl ⊢
  cases is with
  | false => rw [if_neg (by simp)]; exact J _ _ _
  | true =>
    rw [if_pos rfl]
    by_cases g : (((⟨R.toArray⟩ : ByteArray).size : Nat) : Int) > 9
    · rw [decide_eq_true g]; exact J _ _ _
    rw [decide_eq_false g]; rw [ba_size] at g; simp only [told_Long.j0, Bool.false_eq_true, if_false]; obtain ⟨v, r, e⟩ := pint64_some ⟨W.toArray⟩ (by rw [ba_size]; omega); rw [e]; simp only [Option.bind_some]
    by_cases d : r.isNone = true
    · rw [if_pos d, if_pos (by rw [ba_size]; omega), rep9 R (by omega)]; simp only [Option.bind_some]; have b48 : (⟨#[48]⟩ : ByteArray) = ⟨([48] : List UInt8).toArray⟩ := rfl; rw [b48, ba_app, if_pos (by rw [ba_size, ba_size]; simp; omega), ba_app]; obtain ⟨v2, r2, e2⟩ := pint64_some ⟨([48] ++ R ++ List.replicate (9 - R.length) 48).toArray⟩ (by rw [ba_size]; simp; omega); rw [e2]; simp only [Option.bind_some]
      by_cases d2 : r2.isNone = true
      · rw [if_pos d2, nmul]; simp only [Option.bind_some]
        by_cases d3 : wrap64 (Int.tdiv (wrap64 (v * 1000000000)) 1000000000) = v
        · simp only [if_pos d3, Option.isNone_none, if_true]; obtain ⟨⟨x, y⟩, e3, hx⟩ := nadd_some (wrap64 (v * 1000000000)) v2; rw [e3]; simp only [Option.bind_some]
          by_cases d4 : y.isNone = true
          · rw [if_pos d4]; have hx' := hx d4
            unfold i64 at hx'
            by_cases d5 : x < 0
            · rw [if_pos d5]
            · rw [if_neg d5, tlength x (by omega) hx'.2]; simp only [Option.bind_some]; rw [if_neg]
              intro q
              rw [ByteArray.toList_eq, ByteArray.toList_eq] at q
              exact h x ⟨by omega, hx'.2, q.symm⟩
          · rw [if_neg d4]
        · simp only [if_neg d3, Option.isNone_some, Bool.false_eq_true, if_false]
      · rw [if_neg d2]
    · rw [if_neg d]
end Go.Proofs.YtfjifhkgifefeaaGreatDoor.CivP
end

section
namespace Go.Proofs.YtfjifhkgifefeaaGreatDoor.PT
open Giv PA Go.RowKit YtfjifhkgifefeaaGreatDoorW.PrintWords YtfjifhkgifefeaaGreatDoorW.PrintLast YtfjifhkgifefeaaGreatDoorW.PrintMore
attribute [local go_sem] max2_int min2_int max_two min_two max_three min_three max_four min_four
set_option linter.unusedVariables false
set_option linter.unusedSimpArgs false
def fuseeref07_Cut.l0 : Nat → ByteArray → Int → List ByteArray → Int → Int → Option (List ByteArray)
 | 0, _, _, _, _, _ => none
 | k + 1, x0, x1, x5, x6, x7 => if x7 ≤ (x0.size : Int) then (if x7 = (x0.size : Int) then (if 0 ≤ x6 then (if x6 ≤ x7 then (if x5.length < 8796093022208 then (fuseeref07_Cut.l0 k x0 x1 (x5 ++ [x0.extract (x6 : Int).toNat (x7 : Int).toNat]) (wrap64 (x7 + 1)) (wrap64 (x7 + 1))) else (none)) else (none)) else (none)) else (if 0 ≤ x7 then (if x7 < (x0.size : Int) then (if (bt x0 x7) = x1 then (if 0 ≤ x6 then (if x6 ≤ x7 then (if x5.length < 8796093022208 then (fuseeref07_Cut.l0 k x0 x1 (x5 ++ [x0.extract (x6 : Int).toNat (x7 : Int).toNat]) (wrap64 (x7 + 1)) (wrap64 (x7 + 1))) else (none)) else (none)) else (none)) else (fuseeref07_Cut.l0 k x0 x1 x5 x6 (wrap64 (x7 + 1)))) else (none)) else (none))) else (some x5)
def fuseeref07_Cut.f (k : Nat) (a0 : ByteArray) (a1 : Int) : Option (List ByteArray) := fuseeref07_Cut.l0 k a0 a1 ([] : List ByteArray) 0 0
theorem fuseeref07_Cut.calls (k : Nat) (a0 : ByteArray) (a1 : Int) (r : List ByteArray) (w : World) (h : fuseeref07_Cut.f k a0 a1 = some r) :
  Calls Tryz.prog 137 #[.string a0, .int .u8 a1] w fun e w' => ∃ v0_ : Value, e = .returned (v0_) ∧ Kd.R Kd.string 9 w' w.heap.size (fun _ => True) v0_ r ∧ Below w.heap.size w w' := by
 have HB := Aside0.mk (Below.refl w.heap.size w); have H := h; clear h; replace H : (fuseeref07_Cut.l0 k a0 a1 ([] : List ByteArray) 0 0) = some r := H; have H' := Aside0.mk H; clear H
 go_enter Tryz.func137, Tryz.ntmps137
 go_wp2
 go_loopg [5, 6, 7] k (fun kq v5 v6 v7 w' => ∃ (x5_1 : List ByteArray) (x6_1 : Int) (x7_1 : Int), v6 = .int .i64 x6_1 ∧ v7 = .int .i64 x7_1 ∧ Aside0 (fuseeref07_Cut.l0 kq a0 a1 x5_1 x6_1 x7_1 = some r) ∧ Aside0 (kq ≤ k) ∧ Aside0 (Kd.R Kd.string 9 w' w.heap.size (fun _ => True) v5 x5_1) ∧ Aside0 (Below w.heap.size w w'))
 case atStart => exact ⟨(([] : List ByteArray)), (0), (0), rs_, rs_, H', ⟨Nat.le_refl _⟩, ⟨by first | exact Kd.R_nil _ _ _ _ _ | exact Kd.N_nil _ _ _ _ _ | exact Kd.V_nil _ _ _ _ _ | exact Kd.Q_nil _ _ _ _ _ | exact Kd.S_nil _ _ _ _ _⟩, ⟨bl_⟩⟩
 case round =>
  clear H'; (try clear c1); (try clear p2); obtain ⟨x5_1, x6_1, x7_1, rfl, rfl, HA, HK1, HO_5, HB⟩ := hrel
  cases gk with
  | zero => exact absurd HA.out (by simp [fuseeref07_Cut.l0])
  | succ k1 =>
   have H := HA.out; clear HA; simp only [fuseeref07_Cut.l0] at H
   by_cases c3 : x7_1 ≤ (a0.size : Int)
   ·rw [if_pos c3] at H; have c3b0 : decide (x7_1 ≤ (a0.size : Int)) = true := decide_eq_true c3; clear c3
    by_cases c4 : x7_1 = (a0.size : Int)
    ·rw [if_pos c4] at H; have c4b0 : (x7_1 == (a0.size : Int)) = true := beq_iff_eq.mpr c4; have c4b1 : (x7_1 != (a0.size : Int)) = false := bne_eq_false_iff_eq.mpr c4; clear c4
     by_cases c5 : 0 ≤ x6_1
     ·rw [if_pos c5] at H; have c5b0 := eq_true c5; have c5b1 : decide (0 ≤ x6_1) = true := decide_eq_true c5; clear c5
      by_cases c6 : x6_1 ≤ x7_1
      ·rw [if_pos c6] at H; have c6b0 := eq_true c6; have c6b1 : decide (x6_1 ≤ x7_1) = true := decide_eq_true c6; clear c6; have c7b0 := eq_true (of_decide_eq_true as_ : x7_1 ≤ (a0.size : Int))
       by_cases c8 : x5_1.length < 8796093022208
       ·rw [if_pos c8] at H; have LMc8 := Aside0.mk c8; clear c8
        obtain ⟨y208, hy208⟩ : ∃ y_ : List ByteArray, y_ = (x5_1 ++ [a0.extract (x6_1 : Int).toNat (x7_1 : Int).toNat]) := ⟨_, rfl⟩
        replace H : (fuseeref07_Cut.l0 k1 a0 a1 y208 (wrap64 (x7_1 + 1)) (wrap64 (x7_1 + 1))) = some r := by first | (rw [hy208]; with_reducible exact H) | (have H2_ := (Option.bind_some _ _).symm.trans H; rw [hy208]; with_reducible exact H2_) | (have H2_ := (Option.bind_some _ _).symm.trans H; with_reducible exact H2_) | with_reducible exact H | (rw [hy208]; exact H) | exact H
        have Ny208 := Aside0.mk hy208; clear hy208; have H' := Aside0.mk H; clear H
        go_wp2_with (first | ((with_reducible refine gate_builtin (b := .append) (xs := #[.tmp 25, .tmp 30]) rfl ?_); at_builtin; refine Kd.R_append Kd.string (w0 := w) w.heap.size rfl (.tmp 25) (.tmp 30) 90 9 (.string ⟨#[]⟩) 16 rfl Tryz.underlying90 info9 rfl (by decide) (by omega) u5 x5_1 (a0.extract (x6_1 : Int).toNat (x7_1 : Int).toNat) [.string (a0.extract (x6_1 : Int).toNat (x7_1 : Int).toNat)] (fun _ => True) (fun _ => False) rfl rfl ?aP (fun _ hk => hk.elim) ?aF ?aO ?aB ?aS ?aL ?_; (case aP => exact rfl); (case aB => exact bl_); (case aF => exact (fun _ _ => trivial)); (case aO => exact (by (with_reducible repeat (first | apply Kd.R_alloc | apply Kd.R_drewN | apply Kd.R_drew)); exact HO_5.out)); (case aS => exact (below_size bl_)); (case aL => have := LMc8.out; omega); intro v209 w9 ho hb hg hat; rw [← Ny208.out] at ho; have n0_ := Aside0.mk (hb); have n1_ := Aside0.mk (ho); clear HB; clear HO_5; have HB := n0_; have HO210 := n1_; clear n0_ n1_; clear ho hb hg hat))
        go_roundg k1
        case measure => have := HK1.out; omega
        case rel => exact ⟨(y208), (wrap64 (x7_1 + 1)), (wrap64 (x7_1 + 1)), rs_, rs_, H', ⟨by have := HK1.out; omega⟩, ⟨by (with_reducible repeat (first | apply Kd.R_alloc | apply Kd.R_drewN | apply Kd.R_drew)); exact HO210.out⟩, ⟨bl_⟩⟩
       ·rw [if_neg c8] at H; exact absurd H (by simp)
      ·rw [if_neg c6] at H; exact absurd H (by simp)
     ·rw [if_neg c5] at H; exact absurd H (by simp)
    ·rw [if_neg c4] at H; have c4b0 : (x7_1 == (a0.size : Int)) = false := beq_eq_false_iff_ne.mpr c4; have c4b1 : (x7_1 != (a0.size : Int)) = true := bne_iff_ne.mpr c4
     by_cases c10 : 0 ≤ x7_1
     ·rw [if_pos c10] at H; have c10b0 : decide (0 ≤ x7_1) = true := decide_eq_true c10; clear c10
      by_cases c11 : x7_1 < (a0.size : Int)
      ·rw [if_pos c11] at H; have c11b0 : decide (x7_1 < (a0.size : Int)) = true := decide_eq_true c11; clear c11
       by_cases c13 : (bt a0 x7_1) = a1
       ·rw [if_pos c13] at H; have c13b0 : ((bt a0 x7_1) == a1) = true := beq_iff_eq.mpr c13; have c13b1 : ((bt a0 x7_1) != a1) = false := bne_eq_false_iff_eq.mpr c13; clear c13
        by_cases c14 : 0 ≤ x6_1
        ·rw [if_pos c14] at H; have c14b0 := eq_true c14; have c14b1 : decide (0 ≤ x6_1) = true := decide_eq_true c14; clear c14
         by_cases c15 : x6_1 ≤ x7_1
         ·rw [if_pos c15] at H; have c15b0 := eq_true c15; have c15b1 : decide (x6_1 ≤ x7_1) = true := decide_eq_true c15; clear c15; have c16b0 := eq_true (of_decide_eq_true as_ : x7_1 ≤ (a0.size : Int))
          by_cases c17 : x5_1.length < 8796093022208
          ·rw [if_pos c17] at H; have LMc17 := Aside0.mk c17; clear c17
           obtain ⟨y211, hy211⟩ : ∃ y_ : List ByteArray, y_ = (x5_1 ++ [a0.extract (x6_1 : Int).toNat (x7_1 : Int).toNat]) := ⟨_, rfl⟩
           replace H : (fuseeref07_Cut.l0 k1 a0 a1 y211 (wrap64 (x7_1 + 1)) (wrap64 (x7_1 + 1))) = some r := by first | (rw [hy211]; with_reducible exact H) | (have H2_ := (Option.bind_some _ _).symm.trans H; rw [hy211]; with_reducible exact H2_) | (have H2_ := (Option.bind_some _ _).symm.trans H; with_reducible exact H2_) | with_reducible exact H | (rw [hy211]; exact H) | exact H
           have Ny211 := Aside0.mk hy211; clear hy211; have H' := Aside0.mk H; clear H; have p12 : 0 ≤ (x7_1 : Int) := of_decide_eq_true as_; have q12 : x7_1 < (a0.size : Int) := of_decide_eq_true as_; have hx12 := bt_at a0 x7_1; replace p12 := eq_true p12; replace q12 := eq_true q12
           go_wp2_with (first | ((with_reducible refine gate_builtin (b := .append) (xs := #[.tmp 25, .tmp 30]) rfl ?_); at_builtin; refine Kd.R_append Kd.string (w0 := w) w.heap.size rfl (.tmp 25) (.tmp 30) 90 9 (.string ⟨#[]⟩) 16 rfl Tryz.underlying90 info9 rfl (by decide) (by omega) u5 x5_1 (a0.extract (x6_1 : Int).toNat (x7_1 : Int).toNat) [.string (a0.extract (x6_1 : Int).toNat (x7_1 : Int).toNat)] (fun _ => True) (fun _ => False) rfl rfl ?aP (fun _ hk => hk.elim) ?aF ?aO ?aB ?aS ?aL ?_; (case aP => exact rfl); (case aB => exact bl_); (case aF => exact (fun _ _ => trivial)); (case aO => exact (by (with_reducible repeat (first | apply Kd.R_alloc | apply Kd.R_drewN | apply Kd.R_drew)); exact HO_5.out)); (case aS => exact (below_size bl_)); (case aL => have := LMc17.out; omega); intro v212 w18 ho hb hg hat; rw [← Ny211.out] at ho; have n0_ := Aside0.mk (hb); have n1_ := Aside0.mk (ho); clear HB; clear HO_5; have HB := n0_; have HO213 := n1_; clear n0_ n1_; clear ho hb hg hat))
           go_roundg k1
           case measure => have := HK1.out; omega
           case rel => exact ⟨(y211), (wrap64 (x7_1 + 1)), (wrap64 (x7_1 + 1)), rs_, rs_, H', ⟨by have := HK1.out; omega⟩, ⟨by (with_reducible repeat (first | apply Kd.R_alloc | apply Kd.R_drewN | apply Kd.R_drew)); exact HO213.out⟩, ⟨bl_⟩⟩
          ·rw [if_neg c17] at H; exact absurd H (by simp)
         ·rw [if_neg c15] at H; exact absurd H (by simp)
        ·rw [if_neg c14] at H; exact absurd H (by simp)
       ·rw [if_neg c13] at H; have c13b0 : ((bt a0 x7_1) == a1) = false := beq_eq_false_iff_ne.mpr c13; have c13b1 : ((bt a0 x7_1) != a1) = true := bne_iff_ne.mpr c13; have H' := Aside0.mk H; clear H; have p12 : 0 ≤ (x7_1 : Int) := of_decide_eq_true as_; have q12 : x7_1 < (a0.size : Int) := of_decide_eq_true as_; have hx12 := bt_at a0 x7_1; replace p12 := eq_true p12; replace q12 := eq_true q12
        go_wp2
        go_roundg k1
        case measure => have := HK1.out; omega
        case rel => exact ⟨(x5_1), (x6_1), (wrap64 (x7_1 + 1)), rs_, rs_, H', ⟨by have := HK1.out; omega⟩, ⟨by (with_reducible repeat (first | apply Kd.R_alloc | apply Kd.R_drewN | apply Kd.R_drew)); exact HO_5.out⟩, ⟨bl_⟩⟩
      ·rw [if_neg c11] at H; exact absurd H (by simp)
     ·rw [if_neg c10] at H; exact absurd H (by simp)
   ·rw [if_neg c3] at H; have c3b0 : decide (x7_1 ≤ (a0.size : Int)) = false := decide_eq_false c3; clear c3
    obtain rfl := Option.some.inj H
    go_wp2
    go_ret
    exact ⟨_, by first | rfl | (simp [errW_none, errW_some] <;> rfl) | (simp [*, errW_none, errW_some] <;> rfl), by (with_reducible repeat (first | apply Kd.R_alloc | apply Kd.R_drewN | apply Kd.R_drew)); exact HO_5.out, by repeat (first | (with_reducible first | exact HB.out | apply below_alloc | apply pw_below_drewN | apply below_drew1) | exact HB.out)⟩
end Go.Proofs.YtfjifhkgifefeaaGreatDoor.PT
end

section
namespace Go.Proofs.YtfjifhkgifefeaaGreatDoor.PU
open Go.Proofs.YtfjifhkgifefeaaGreatDoor.Giv Go.Proofs.YtfjifhkgifefeaaGreatDoor.PA Go.Proofs.YtfjifhkgifefeaaGreatDoor.PT Go.RowKit Go.Proofs.YtfjifhkgifefeaaGreatDoorW.PrintWords Go.Proofs.YtfjifhkgifefeaaGreatDoorW.PrintLast Go.Proofs.YtfjifhkgifefeaaGreatDoorW.PrintMore
attribute [local go_sem] max2_int min2_int max_two min_two max_three min_three max_four min_four   -- for this text's walks alone
set_option linter.unusedVariables false
set_option linter.unusedSimpArgs false
end Go.Proofs.YtfjifhkgifefeaaGreatDoor.PU
end

