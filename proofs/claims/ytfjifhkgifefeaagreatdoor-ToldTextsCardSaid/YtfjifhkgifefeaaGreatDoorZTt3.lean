/- Any moment as a text, that of any text, any length as a text, and that of any text, or the errors. -/
import Derived.Test.YtfjifhkgifefeaaGreatDoorZTt2
import Derived.Lib.SplitLaws
import Derived.Lib.ParseIntBTie
import Derived.Laws.OwnMore
import Derived.Test.YtfjifhkgifefeaaGreatDoorProg
import Derived.Below
import Derived.Deep.Draws
import Derived.Deep.AppendLies
import Derived.Maps.AppendAt
import Derived.OwnWalk
import Derived.Laws.BytesArg
import Derived.Laws.MakeOwn
import Derived.Deep.OwnRows
import Derived.Tactics
import Derived.Lib.ConvBytes
import Derived.Laws.Slices
import Derived.WalkKit
import Derived.KernelRfl
import Derived.RowKit3
import Derived.Deep.LoopGhost
import Derived.Deep.QuietTactic
import Derived.BigQuiet
import Derived.WideLaws
import Derived.Deep.DeepCutAuto
import Derived.Deep.CutBlock
import Derived.Deep.RegionHeld3
import Derived.Laws.Rows
import Derived.Lib.AppendStr
import Derived.ArgAppend
import Derived.Laws.IdiomCopy
import Derived.OrdersHeld
import Derived.Laws.BitsLemmas
import Derived.RowKit
set_option maxHeartbeats 8000000
set_option maxRecDepth 100000
set_option linter.unusedVariables false
set_option linter.unusedSimpArgs false
section
namespace Go.Proofs.YtfjifhkgifefeaaGreatDoor.PA
open Giv Go.RowKit YtfjifhkgifefeaaGreatDoorW.PrintWords YtfjifhkgifefeaaGreatDoorW.PrintLast YtfjifhkgifefeaaGreatDoorW.PrintMore
attribute [local go_sem] max2_int min2_int max_two min_two max_three min_three max_four min_four
set_option linter.unusedVariables false
set_option linter.unusedSimpArgs false
def fuseeref07_Parse.j0 : Nat → ByteArray → Bool → Option (Int × Int × Int × Int)
 | 0, _, _ => none
 | k + 1, x0, x17 => if x17 = true then (some (0, 0, 0, 3)) else (if 0 ≤ 4 then (if 4 ≤ (x0.size : Int) then ((fuseeref07_Digits.f k (x0.extract 0 4)).bind fun t214 => (if 5 ≤ 7 then (if 7 ≤ (x0.size : Int) then ((fuseeref07_Digits.f k (x0.extract 5 7)).bind fun t215 => (if 8 ≤ (x0.size : Int) then ((fuseeref07_Digits.f k (x0.extract 8 x0.size)).bind fun t216 => ((fuseeref07_May.f k t214 t215 t216).bind fun t218 => (if t218 = true then (some (t214, t215, t216, 0)) else (some (0, 0, 0, 3))))) else (none))) else (none)) else (none))) else (none)) else (none))
def fuseeref07_Parse.f (k : Nat) (a0 : ByteArray) : Option (Int × Int × Int × Int) := if (a0.size : Int) = 10 then (if 4 < (a0.size : Int) then (if (bt a0 4) = 45 then (if 7 < (a0.size : Int) then (fuseeref07_Parse.j0 k a0 ((bt a0 7) != 45)) else (none)) else (fuseeref07_Parse.j0 k a0 true)) else (none)) else (fuseeref07_Parse.j0 k a0 true)
def fuseeref07_Parse.T3 : Bool × List (List Nat × List Nat) := (true, [([], []), ([0], [0]), ([1], [1]), ([], []), ([3], [3]), ([4, 2], [4]), ([], []), ([6], [6]), ([7, 5], [7]), ([2, 5, 8], [2, 5, 8]), ([], []), ([10, 9, 8, 0, 1, 2, 3, 4, 5, 6, 7, 8, 9, 10], [9, 10])])
def fuseeref07_Parse.B3 : List Nat := [0, 1, 3, 0, 8, 31, 0, 64, 255, 511, 0, 2047]
theorem fuseeref07_Parse.tab3 : rtab .any (opsOf Tryz.f28 3) = fuseeref07_Parse.T3 := by kernel_rfl
theorem fuseeref07_Parse.bits3 : waitsOk fuseeref07_Parse.T3.2 fuseeref07_Parse.B3 = true := by kernel_rfl
theorem fuseeref07_Parse.calls (k : Nat) (a0 : ByteArray) (r1 : Int) (r2 : Int) (r3 : Int) (r4 : Int) (w : World) (h : fuseeref07_Parse.f k a0 = some (r1, r2, r3, r4)) :
  Calls Tryz.prog 28 #[.string a0] w fun e w' => e = .returned (.tuple #[.agg #[.int .i64 r1, .int .i64 r2, .int .i64 r3], .int .i64 r4]) ∧ Below w.heap.size w w' := by
 have hu23 := Tryz.underlying23; have HB := Aside0.mk (Below.refl w.heap.size w); have H := h; clear h
 unfold fuseeref07_Parse.f at H
 have HC2 := Aside0.mk H; clear H
 go_enter Tryz.func28, Tryz.ntmps28
 go_upto_region 1 with (first | ((with_reducible refine gate_dst (N := 2) rfl ?_); refine be_ (N := 2) (cs := #[.int .i64 0, .int .i64 0, .int .i64 0]) (t := 23) ?_; intro gb213 hg w3 hbox hb; have BK213 := Aside0.mk hbox; have GW213 := Aside0.mk (sz_ hg : w.heap.size ≤ gb213); have GE213 := GW213; replace HB := bs_ hb; clear hb hbox hg))
 (try simp only [Act.put, List.setIfInBounds_toArray, List.set_cons_zero, List.set_cons_succ])
 go_cut [17] (fun v17 wc => ∃ (kq : Nat) (x17_1 : Bool), v17 = .bool x17_1 ∧ Aside0 (fuseeref07_Parse.j0 kq a0 x17_1 = some (r1, r2, r3, r4)) ∧ Aside0 (kq ≤ k) ∧ Aside0 (wc.heap[gb213]? = some (.cells #[.int .i64 0, .int .i64 0, .int .i64 0] 23 (0, 0))) ∧ Aside0 (Below w.heap.size w wc))
 case first =>
  have H := HC2.out; clear HC2
  by_cases c4 : (a0.size : Int) = 10
  ·rw [if_pos c4] at H; have c4b0 : ((a0.size : Int) == 10) = true := beq_iff_eq.mpr c4; have c4b1 : ((a0.size : Int) != 10) = false := bne_eq_false_iff_eq.mpr c4; clear c4
   (first | rw [c4b0] | (simp only [i64_w, i32_w]; rw [c4b0]) | skip)
   by_cases c5 : 4 < (a0.size : Int)
   ·rw [if_pos c5] at H; have c5b0 : decide (4 < (a0.size : Int)) = true := decide_eq_true c5; have c5b1 : decide (4 < a0.size) = true := decide_eq_true (by omega); clear c5
    by_cases c7 : (bt a0 4) = 45
    ·rw [if_pos c7] at H; have c7b0 : ((bt a0 4) == 45) = true := beq_iff_eq.mpr c7; have c7b1 : ((bt a0 4) != 45) = false := bne_eq_false_iff_eq.mpr c7; clear c7
     by_cases c8 : 7 < (a0.size : Int)
     ·rw [if_pos c8] at H; have c8b0 : decide (7 < (a0.size : Int)) = true := decide_eq_true c8; have c8b1 : decide (7 < a0.size) = true := decide_eq_true (by omega); clear c8; have H' := Aside0.mk H; clear H
      have p6 : 0 ≤ (4 : Int) := (by omega)
      have q6 : 4 < a0.size := (by have : (4 : Int) < (a0.size : Int) := of_decide_eq_true as_; omega)
      have hx6 : ∀ h : 4 < a0.size, ((a0[4]'h).toNat : Int) = bt a0 4 := bt_at a0 4; clear p6; have qi6 : (4 < (a0.size : Int)) = True := eq_true (of_decide_eq_true as_); replace q6 := eq_true q6
      have p9 : 0 ≤ (7 : Int) := (by omega)
      have q9 : 7 < a0.size := (by have : (7 : Int) < (a0.size : Int) := of_decide_eq_true as_; omega)
      have hx9 : ∀ h : 7 < a0.size, ((a0[7]'h).toNat : Int) = bt a0 7 := bt_at a0 7; clear p9; have qi9 : (7 < (a0.size : Int)) = True := eq_true (of_decide_eq_true as_); replace q9 := eq_true q9
      go_wp2
      go_meet
      case rel => exact ⟨_, (((bt a0 7) != 45)), rs_, H', ⟨by first | omega | exact Nat.le_refl _⟩, ⟨bk_⟩, ⟨bl_⟩⟩
     ·rw [if_neg c8] at H; exact absurd H (by simp)
    ·rw [if_neg c7] at H; have c7b0 : ((bt a0 4) == 45) = false := beq_eq_false_iff_ne.mpr c7; have c7b1 : ((bt a0 4) != 45) = true := bne_iff_ne.mpr c7; have H' := Aside0.mk H; clear H
     have p6 : 0 ≤ (4 : Int) := (by omega)
     have q6 : 4 < a0.size := (by have : (4 : Int) < (a0.size : Int) := of_decide_eq_true as_; omega)
     have hx6 : ∀ h : 4 < a0.size, ((a0[4]'h).toNat : Int) = bt a0 4 := bt_at a0 4; clear p6; have qi6 : (4 < (a0.size : Int)) = True := eq_true (of_decide_eq_true as_); replace q6 := eq_true q6
     go_wp2
     go_meet
     case rel => exact ⟨_, (true), rs_, H', ⟨by first | omega | exact Nat.le_refl _⟩, ⟨bk_⟩, ⟨bl_⟩⟩
   ·rw [if_neg c5] at H; exact absurd H (by simp)
  ·rw [if_neg c4] at H; have c4b0 : ((a0.size : Int) == 10) = false := beq_eq_false_iff_ne.mpr c4; have c4b1 : ((a0.size : Int) != 10) = true := bne_iff_ne.mpr c4
   (first | rw [c4b0] | (simp only [i64_w, i32_w]; rw [c4b0]) | skip)
   have H' := Aside0.mk H; clear H
   go_wp2
   go_meet
   case rel => exact ⟨_, (true), rs_, H', ⟨by first | omega | exact Nat.le_refl _⟩, ⟨bk_⟩, ⟨bl_⟩⟩
 case rest =>
  clear HC2; (try clear c2); (try clear p2); (try clear c4); (try clear c4b0); (try clear c4b1); (try clear c5); (try clear c5b0); (try clear c5b1); (try clear p6); (try clear q6); (try clear hx6); (try clear qi6); (try clear c7); (try clear c7b0); (try clear c7b1); (try clear c8); (try clear c8b0); (try clear c8b1); (try clear p9); (try clear q9); (try clear hx9); (try clear qi9); (try clear p6); (try clear p9); (try clear q6); (try clear q9); obtain ⟨kq, x17_1, rfl, HA, HJ1, BK213, HB⟩ := hcut
  cases kq with
  | zero => exact absurd HA.out (by simp [fuseeref07_Parse.j0])
  | succ kj1 =>
   have H := HA.out; clear HA; simp only [fuseeref07_Parse.j0] at H
   by_cases c10 : x17_1 = true
   ·subst c10
    have H1 : (some (0, 0, 0, 3)) = some (r1, r2, r3, r4) := by rw [if_pos rfl] at H; exact H
    clear H; have H := H1; clear H1; simp only [Option.some.injEq, Prod.mk.injEq] at H; obtain ⟨rfl, rfl, rfl, rfl⟩ := H; have hcz11_0 : wc.cell? ⟨gb213, 0, none⟩ = some (.int .i64 0) := (blk_cell BK213.out 0).trans rfl; have hcz11_1 : wc.cell? ⟨gb213, 1, none⟩ = some (.int .i64 0) := (blk_cell BK213.out 1).trans rfl; have hcz11_2 : wc.cell? ⟨gb213, 2, none⟩ = some (.int .i64 0) := (blk_cell BK213.out 2).trans rfl; have hfz11_0 := blk_frozen BK213.out 0; have hfz11_1 := blk_frozen BK213.out 1; have hfz11_2 := blk_frozen BK213.out 2
    go_wp2
    refine bodyPost_ret (results_ct rfl _ _ gb213 23 #[.int .i64 0, .int .i64 0, .int .i64 0] (0, 0) _ rfl (by (with_reducible repeat first | apply blk_drewN | apply blk_drew | apply blk_alloc); refine blk_put (cs := #[.int .i64 0, .int .i64 0, .int .i64 0]) ?_ 2 _ rfl; (with_reducible repeat first | apply blk_drewN | apply blk_drew | apply blk_alloc); refine blk_put (cs := #[.int .i64 0, .int .i64 0, .int .i64 0]) ?_ 1 _ rfl; (with_reducible repeat first | apply blk_drewN | apply blk_drew | apply blk_alloc); refine blk_put (cs := #[.int .i64 0, .int .i64 0, .int .i64 0]) ?_ 0 _ rfl; (with_reducible repeat first | apply blk_drewN | apply blk_drew | apply blk_alloc); exact BK213.out) Tryz.underlying23 rfl (by kernel_rfl)) rfl ?_
    exact en_
   ·replace c10 := Bool.eq_false_iff.mpr c10; subst c10
    have H1 : (if 0 ≤ 4 then (if 4 ≤ (a0.size : Int) then ((fuseeref07_Digits.f kj1 (a0.extract 0 4)).bind fun t214 => (if 5 ≤ 7 then (if 7 ≤ (a0.size : Int) then ((fuseeref07_Digits.f kj1 (a0.extract 5 7)).bind fun t215 => (if 8 ≤ (a0.size : Int) then ((fuseeref07_Digits.f kj1 (a0.extract 8 a0.size)).bind fun t216 => ((fuseeref07_May.f kj1 t214 t215 t216).bind fun t218 => (if t218 = true then (some (t214, t215, t216, 0)) else (some (0, 0, 0, 3))))) else (none))) else (none)) else (none))) else (none)) else (none)) = some (r1, r2, r3, r4) := by rw [if_neg (show ¬ (false = true) by decide)] at H; exact H
    clear H; have H := H1; clear H1
    by_cases c12 : 0 ≤ 4
    ·rw [if_pos c12] at H; have c12b0 := eq_true c12; have c12b1 : decide (0 ≤ 4) = true := decide_eq_true c12; clear c12
     by_cases c13 : 4 ≤ (a0.size : Int)
     ·rw [if_pos c13] at H; have c13b0 := eq_true c13; have c13b1 : decide (4 ≤ (a0.size : Int)) = true := decide_eq_true c13; clear c13; replace H := Option.bind_eq_some_iff.mp H; obtain ⟨t214, A140, H⟩ := H; (try dsimp only at H); have A14 := Aside0.mk A140; clear A140
      by_cases c15 : 5 ≤ 7
      ·rw [if_pos c15] at H; have c15b0 := eq_true c15; have c15b1 : decide (5 ≤ 7) = true := decide_eq_true c15; clear c15
       by_cases c16 : 7 ≤ (a0.size : Int)
       ·rw [if_pos c16] at H; have c16b0 := eq_true c16; have c16b1 : decide (7 ≤ (a0.size : Int)) = true := decide_eq_true c16; clear c16; replace H := Option.bind_eq_some_iff.mp H; obtain ⟨t215, A170, H⟩ := H; (try dsimp only at H); have A17 := Aside0.mk A170; clear A170
        by_cases c18 : 8 ≤ (a0.size : Int)
        ·rw [if_pos c18] at H; have c18b0 := eq_true c18; have c18b1 : decide (8 ≤ (a0.size : Int)) = true := decide_eq_true c18; clear c18; replace H := Option.bind_eq_some_iff.mp H; obtain ⟨t216, A190, H⟩ := H; (try dsimp only at H); have A19 := Aside0.mk A190; clear A190; replace H := Option.bind_eq_some_iff.mp H; obtain ⟨t218, A200, H⟩ := H; (try dsimp only at H); have A20 := Aside0.mk A200; clear A200
         by_cases c21 : t218 = true
         ·subst c21
          have H1 : (some (t214, t215, t216, 0)) = some (r1, r2, r3, r4) := by rw [if_pos rfl] at H; exact H
          clear H; have H := H1; clear H1; simp only [Option.some.injEq, Prod.mk.injEq] at H; obtain ⟨rfl, rfl, rfl, rfl⟩ := H
          try go_wp2
          have n0_ := Aside0.mk (blk_drew BK213.out); have n1_ := Aside0.mk (below_drew1 HB.out); clear BK213; clear HB; have BK213 := n0_; have HB := n1_; clear n0_ n1_
          refine start_ (n := 12) (S := fun w' => True) (ds := []) (bq 12 0) (by kernel_rfl) rfl (by kernel_rfl) trivial (fun hHeld => ?_); refine with_tabW fuseeref07_Parse.tab3 fuseeref07_Parse.bits3 (fun HT_ HW_ => ?_)
          generalize wc.drew = w22 at BK213 HB hHeld ⊢
          refine pa 0 (bq 12 1) (some 19) ?_; refine pa 1 (bq 12 2) (some 20) ?_; refine pa 3 (bs 12 11) (some 22) ?_; refine pa 4 (bs 12 27) (some 23) ?_; refine pa 6 (bs 12 91) (some 25) ?_; refine pa 7 (bs 12 219) (some 26) ?_
          refine join_ (σ := Nat) 1 (bq 12 11) (fun s_ => [(21, .int .i64 t214), (24, .int .i64 t215), (27, .int .i64 t216), (4, .pointer (some ⟨s_, 0, none⟩)), (28, .agg #[.int .i64 t214, .int .i64 t215, .int .i64 t216])]) (fun s_ w' => (w'.heap[gb213]? = some (.cells #[.int .i64 0, .int .i64 0, .int .i64 0] 23 (0, 0))) ∧ (w'.heap[s_]? = some (.cells #[.int .i64 0, .int .i64 0, .int .i64 0] 23 (0, 0))) ∧ (w.heap.size ≤ s_) ∧ (w.heap.size ≤ s_) ∧ (gb213 ≠ s_) ∧ (s_ ≠ gb213) ∧ (Below w.heap.size w w')) ?_ ?_
          rotate_left
          ·intro hCont
           refine two_ (i := 2) (j := 10) (Ni := some 21) (Nj := some 4) (bs 12 223) (bs 12 1243) rfl rfl rfl rfl (two_of HT_.out (by kernel_rfl)) (by decide) (by decide) (fun K hK => ?_) (fun K hK => ?_)
           ·skip
            refine goes_ Tryz.func98 (by kernel_rfl) rfl #[.string (a0.extract 0 4)] (by rfl) rfl rfl ev_ ?_
            with_reducible refine (fuseeref07_Digits.calls kj1 (a0.extract 0 4) t214 _ A14.out).mono ?_
            rintro e w' ⟨rfl, ⟨nd, rfl⟩⟩
            refine ⟨_, rfl, ?_⟩
            refine hK.out _ _ trivial (fun hHeld => ?_)
            clear hK K
            refine norm_ (a' := ?_) ?_ ?_
            rotate_left
            ·show Act.put _ (some 21) _ = _
             simp only [Act.put, List.setIfInBounds_toArray, List.set_cons_zero, List.set_cons_succ, i64_w, i32_w]
             rfl
            refine two_ (i := 5) (j := 10) (Ni := some 24) (Nj := some 4) (bq 12 8) (bs 12 1247) rfl rfl rfl rfl (two_of HT_.out (by kernel_rfl)) (by decide) (by decide) (fun K hK => ?_) (fun K hK => ?_)
            ·skip
             refine goes_ Tryz.func98 (by kernel_rfl) rfl #[.string (a0.extract 5 7)] (by rfl) rfl rfl ev_ ?_
             with_reducible refine (fuseeref07_Digits.calls kj1 (a0.extract 5 7) t215 _ A17.out).mono ?_
             rintro e w' ⟨rfl, ⟨nd, rfl⟩⟩
             refine ⟨_, rfl, ?_⟩
             refine hK.out _ _ trivial (fun hHeld => ?_)
             clear hK K
             refine norm_ (a' := ?_) ?_ ?_
             rotate_left
             ·show Act.put _ (some 24) _ = _
              simp only [Act.put, List.setIfInBounds_toArray, List.set_cons_zero, List.set_cons_succ, i64_w, i32_w]
              rfl
             refine two_ (i := 8) (j := 10) (Ni := some 27) (Nj := some 4) (bq 12 9) (bs 12 1279) rfl rfl rfl rfl (two_of HT_.out (by kernel_rfl)) (by decide) (by decide) (fun K hK => ?_) (fun K hK => ?_)
             ·skip
              refine goes_ Tryz.func98 (by kernel_rfl) rfl #[.string (a0.extract 8 a0.size)] (by rfl) rfl rfl ev_ ?_
              with_reducible refine (fuseeref07_Digits.calls kj1 (a0.extract 8 a0.size) t216 _ A19.out).mono ?_
              rintro e w' ⟨rfl, ⟨nd, rfl⟩⟩
              refine ⟨_, rfl, ?_⟩
              refine hK.out _ _ trivial (fun hHeld => ?_)
              clear hK K
              refine norm_ (a' := ?_) ?_ ?_
              rotate_left
              ·show Act.put _ (some 27) _ = _
               simp only [Act.put, List.setIfInBounds_toArray, List.set_cons_zero, List.set_cons_succ, i64_w, i32_w]
               rfl
              refine pa 9 (bq 12 10) (some 28) ?_
              refine one_ (i := 10) (N := some 4) (bq 12 11) rfl rfl (one_of HT_.out (by kernel_rfl)) (by decide) (fun K hK => ?_)
              refine box_step ?hg (N := 4) ?hd (cs := #[.int .i64 0, .int .i64 0, .int .i64 0]) (t := 23) ?hr ?_; (case hd => rfl); (case hg => rfl); (case hr => first | (go_simp; done) | (go_simp; rfl))
              intro gb217 hg w23 hbox hb
              have n0_ := Aside0.mk (blk_below (g := gb213) (o := .cells #[.int .i64 0, .int .i64 0, .int .i64 0] 23 (0, 0)) bk_ hb); have n1_ := bs_ hb; have n2_ := Aside0.mk hbox; have n3_ := Aside0.mk (sz_ hg : w.heap.size ≤ gb217); have n4_ := Aside0.mk (sz_ hg : w.heap.size ≤ gb217); have n5_ := Aside0.mk ((by rw [hg]; exact Nat.ne_of_lt (blk_lt (g := gb213) (o := .cells #[.int .i64 0, .int .i64 0, .int .i64 0] 23 (0, 0)) bk_) : gb213 ≠ gb217)); have n6_ := Aside0.mk ((by rw [hg]; exact Nat.ne_of_gt (blk_lt (g := gb213) (o := .cells #[.int .i64 0, .int .i64 0, .int .i64 0] 23 (0, 0)) bk_) : gb217 ≠ gb213)); clear BK213; clear HB; have BK213 := n0_; have HB := n1_; have BK217 := n2_; have GW217 := n3_; have GE217 := n4_; have NB213_217 := n5_; have NB217_213 := n6_; clear n0_ n1_ n2_ n3_ n4_ n5_ n6_; clear hb hbox hg
              refine hK.out _ _ trivial (fun hHeld => ?_)
              clear hK K
              refine norm_ (a' := ?_) ?_ ?_
              rotate_left
              ·show Act.put _ (some 4) _ = _
               simp only [Act.put, List.setIfInBounds_toArray, List.set_cons_zero, List.set_cons_succ, i64_w, i32_w]
               rfl
              exact norm_ (by simp only [putAll, Act.put, List.setIfInBounds_toArray, List.set_cons_zero, List.set_cons_succ]) (hCont (gb217) _ ⟨bk_, bk_, GW217.out, GE217.out, NB213_217.out, NB217_213.out, bl_⟩)
             ·skip
              refine box_step ?hg (N := 4) ?hd (cs := #[.int .i64 0, .int .i64 0, .int .i64 0]) (t := 23) ?hr ?_; (case hd => rfl); (case hg => rfl); (case hr => first | (go_simp; done) | (go_simp; rfl))
              intro gb217 hg w23 hbox hb
              have n0_ := Aside0.mk (blk_below (g := gb213) (o := .cells #[.int .i64 0, .int .i64 0, .int .i64 0] 23 (0, 0)) bk_ hb); have n1_ := bs_ hb; have n2_ := Aside0.mk hbox; have n3_ := Aside0.mk (sz_ hg : w.heap.size ≤ gb217); have n4_ := Aside0.mk (sz_ hg : w.heap.size ≤ gb217); have n5_ := Aside0.mk ((by rw [hg]; exact Nat.ne_of_lt (blk_lt (g := gb213) (o := .cells #[.int .i64 0, .int .i64 0, .int .i64 0] 23 (0, 0)) bk_) : gb213 ≠ gb217)); have n6_ := Aside0.mk ((by rw [hg]; exact Nat.ne_of_gt (blk_lt (g := gb213) (o := .cells #[.int .i64 0, .int .i64 0, .int .i64 0] 23 (0, 0)) bk_) : gb217 ≠ gb213)); clear BK213; clear HB; have BK213 := n0_; have HB := n1_; have BK217 := n2_; have GW217 := n3_; have GE217 := n4_; have NB213_217 := n5_; have NB217_213 := n6_; clear n0_ n1_ n2_ n3_ n4_ n5_ n6_; clear hb hbox hg
              refine hK.out _ _ trivial (fun hHeld => ?_)
              clear hK K
              refine norm_ (a' := ?_) ?_ ?_
              rotate_left
              ·show Act.put _ (some 4) _ = _
               simp only [Act.put, List.setIfInBounds_toArray, List.set_cons_zero, List.set_cons_succ, i64_w, i32_w]
               rfl
              refine one_ (i := 8) (N := some 27) (bs 12 1535) rfl rfl (one_of HT_.out (by kernel_rfl)) (by decide) (fun K hK => ?_)
              refine goes_ Tryz.func98 (by kernel_rfl) rfl #[.string (a0.extract 8 a0.size)] (by rfl) rfl rfl ev_ ?_
              with_reducible refine (fuseeref07_Digits.calls kj1 (a0.extract 8 a0.size) t216 _ A19.out).mono ?_
              rintro e w' ⟨rfl, ⟨nd, rfl⟩⟩
              refine ⟨_, rfl, ?_⟩
              refine hK.out _ _ trivial (fun hHeld => ?_)
              clear hK K
              refine norm_ (a' := ?_) ?_ ?_
              rotate_left
              ·show Act.put _ (some 27) _ = _
               simp only [Act.put, List.setIfInBounds_toArray, List.set_cons_zero, List.set_cons_succ, i64_w, i32_w]
               rfl
              refine pa 9 (bq 12 11) (some 28) ?_
              exact norm_ (by simp only [putAll, Act.put, List.setIfInBounds_toArray, List.set_cons_zero, List.set_cons_succ]) (hCont (gb217) _ ⟨bk_, bk_, GW217.out, GE217.out, NB213_217.out, NB217_213.out, bl_⟩)
            ·skip
             refine box_step ?hg (N := 4) ?hd (cs := #[.int .i64 0, .int .i64 0, .int .i64 0]) (t := 23) ?hr ?_; (case hd => rfl); (case hg => rfl); (case hr => first | (go_simp; done) | (go_simp; rfl))
             intro gb217 hg w23 hbox hb
             have n0_ := Aside0.mk (blk_below (g := gb213) (o := .cells #[.int .i64 0, .int .i64 0, .int .i64 0] 23 (0, 0)) bk_ hb); have n1_ := bs_ hb; have n2_ := Aside0.mk hbox; have n3_ := Aside0.mk (sz_ hg : w.heap.size ≤ gb217); have n4_ := Aside0.mk (sz_ hg : w.heap.size ≤ gb217); have n5_ := Aside0.mk ((by rw [hg]; exact Nat.ne_of_lt (blk_lt (g := gb213) (o := .cells #[.int .i64 0, .int .i64 0, .int .i64 0] 23 (0, 0)) bk_) : gb213 ≠ gb217)); have n6_ := Aside0.mk ((by rw [hg]; exact Nat.ne_of_gt (blk_lt (g := gb213) (o := .cells #[.int .i64 0, .int .i64 0, .int .i64 0] 23 (0, 0)) bk_) : gb217 ≠ gb213)); clear BK213; clear HB; have BK213 := n0_; have HB := n1_; have BK217 := n2_; have GW217 := n3_; have GE217 := n4_; have NB213_217 := n5_; have NB217_213 := n6_; clear n0_ n1_ n2_ n3_ n4_ n5_ n6_; clear hb hbox hg
             refine hK.out _ _ trivial (fun hHeld => ?_)
             clear hK K
             refine norm_ (a' := ?_) ?_ ?_
             rotate_left
             ·show Act.put _ (some 4) _ = _
              simp only [Act.put, List.setIfInBounds_toArray, List.set_cons_zero, List.set_cons_succ, i64_w, i32_w]
              rfl
             refine one_ (i := 5) (N := some 24) (bs 12 1279) rfl rfl (one_of HT_.out (by kernel_rfl)) (by decide) (fun K hK => ?_)
             refine goes_ Tryz.func98 (by kernel_rfl) rfl #[.string (a0.extract 5 7)] (by rfl) rfl rfl ev_ ?_
             with_reducible refine (fuseeref07_Digits.calls kj1 (a0.extract 5 7) t215 _ A17.out).mono ?_
             rintro e w' ⟨rfl, ⟨nd, rfl⟩⟩
             refine ⟨_, rfl, ?_⟩
             refine hK.out _ _ trivial (fun hHeld => ?_)
             clear hK K
             refine norm_ (a' := ?_) ?_ ?_
             rotate_left
             ·show Act.put _ (some 24) _ = _
              simp only [Act.put, List.setIfInBounds_toArray, List.set_cons_zero, List.set_cons_succ, i64_w, i32_w]
              rfl
             refine one_ (i := 8) (N := some 27) (bs 12 1535) rfl rfl (one_of HT_.out (by kernel_rfl)) (by decide) (fun K hK => ?_)
             refine goes_ Tryz.func98 (by kernel_rfl) rfl #[.string (a0.extract 8 a0.size)] (by rfl) rfl rfl ev_ ?_
             with_reducible refine (fuseeref07_Digits.calls kj1 (a0.extract 8 a0.size) t216 _ A19.out).mono ?_
             rintro e w' ⟨rfl, ⟨nd, rfl⟩⟩
             refine ⟨_, rfl, ?_⟩
             refine hK.out _ _ trivial (fun hHeld => ?_)
             clear hK K
             refine norm_ (a' := ?_) ?_ ?_
             rotate_left
             ·show Act.put _ (some 27) _ = _
              simp only [Act.put, List.setIfInBounds_toArray, List.set_cons_zero, List.set_cons_succ, i64_w, i32_w]
              rfl
             refine pa 9 (bq 12 11) (some 28) ?_
             exact norm_ (by simp only [putAll, Act.put, List.setIfInBounds_toArray, List.set_cons_zero, List.set_cons_succ]) (hCont (gb217) _ ⟨bk_, bk_, GW217.out, GE217.out, NB213_217.out, NB217_213.out, bl_⟩)
           ·skip
            refine box_step ?hg (N := 4) ?hd (cs := #[.int .i64 0, .int .i64 0, .int .i64 0]) (t := 23) ?hr ?_; (case hd => rfl); (case hg => rfl); (case hr => first | (go_simp; done) | (go_simp; rfl))
            intro gb217 hg w23 hbox hb
            have n0_ := Aside0.mk (blk_below (g := gb213) (o := .cells #[.int .i64 0, .int .i64 0, .int .i64 0] 23 (0, 0)) bk_ hb); have n1_ := bs_ hb; have n2_ := Aside0.mk hbox; have n3_ := Aside0.mk (sz_ hg : w.heap.size ≤ gb217); have n4_ := Aside0.mk (sz_ hg : w.heap.size ≤ gb217); have n5_ := Aside0.mk ((by rw [hg]; exact Nat.ne_of_lt (blk_lt (g := gb213) (o := .cells #[.int .i64 0, .int .i64 0, .int .i64 0] 23 (0, 0)) bk_) : gb213 ≠ gb217)); have n6_ := Aside0.mk ((by rw [hg]; exact Nat.ne_of_gt (blk_lt (g := gb213) (o := .cells #[.int .i64 0, .int .i64 0, .int .i64 0] 23 (0, 0)) bk_) : gb217 ≠ gb213)); clear BK213; clear HB; have BK213 := n0_; have HB := n1_; have BK217 := n2_; have GW217 := n3_; have GE217 := n4_; have NB213_217 := n5_; have NB217_213 := n6_; clear n0_ n1_ n2_ n3_ n4_ n5_ n6_; clear hb hbox hg
            refine hK.out _ _ trivial (fun hHeld => ?_)
            clear hK K
            refine norm_ (a' := ?_) ?_ ?_
            rotate_left
            ·show Act.put _ (some 4) _ = _
             simp only [Act.put, List.setIfInBounds_toArray, List.set_cons_zero, List.set_cons_succ, i64_w, i32_w]
             rfl
            refine one_ (i := 2) (N := some 21) (bs 12 1247) rfl rfl (one_of HT_.out (by kernel_rfl)) (by decide) (fun K hK => ?_)
            refine goes_ Tryz.func98 (by kernel_rfl) rfl #[.string (a0.extract 0 4)] (by rfl) rfl rfl ev_ ?_
            with_reducible refine (fuseeref07_Digits.calls kj1 (a0.extract 0 4) t214 _ A14.out).mono ?_
            rintro e w' ⟨rfl, ⟨nd, rfl⟩⟩
            refine ⟨_, rfl, ?_⟩
            refine hK.out _ _ trivial (fun hHeld => ?_)
            clear hK K
            refine norm_ (a' := ?_) ?_ ?_
            rotate_left
            ·show Act.put _ (some 21) _ = _
             simp only [Act.put, List.setIfInBounds_toArray, List.set_cons_zero, List.set_cons_succ, i64_w, i32_w]
             rfl
            refine one_ (i := 5) (N := some 24) (bs 12 1279) rfl rfl (one_of HT_.out (by kernel_rfl)) (by decide) (fun K hK => ?_)
            refine goes_ Tryz.func98 (by kernel_rfl) rfl #[.string (a0.extract 5 7)] (by rfl) rfl rfl ev_ ?_
            with_reducible refine (fuseeref07_Digits.calls kj1 (a0.extract 5 7) t215 _ A17.out).mono ?_
            rintro e w' ⟨rfl, ⟨nd, rfl⟩⟩
            refine ⟨_, rfl, ?_⟩
            refine hK.out _ _ trivial (fun hHeld => ?_)
            clear hK K
            refine norm_ (a' := ?_) ?_ ?_
            rotate_left
            ·show Act.put _ (some 24) _ = _
             simp only [Act.put, List.setIfInBounds_toArray, List.set_cons_zero, List.set_cons_succ, i64_w, i32_w]
             rfl
            refine one_ (i := 8) (N := some 27) (bs 12 1535) rfl rfl (one_of HT_.out (by kernel_rfl)) (by decide) (fun K hK => ?_)
            refine goes_ Tryz.func98 (by kernel_rfl) rfl #[.string (a0.extract 8 a0.size)] (by rfl) rfl rfl ev_ ?_
            with_reducible refine (fuseeref07_Digits.calls kj1 (a0.extract 8 a0.size) t216 _ A19.out).mono ?_
            rintro e w' ⟨rfl, ⟨nd, rfl⟩⟩
            refine ⟨_, rfl, ?_⟩
            refine hK.out _ _ trivial (fun hHeld => ?_)
            clear hK K
            refine norm_ (a' := ?_) ?_ ?_
            rotate_left
            ·show Act.put _ (some 27) _ = _
             simp only [Act.put, List.setIfInBounds_toArray, List.set_cons_zero, List.set_cons_succ, i64_w, i32_w]
             rfl
            refine pa 9 (bq 12 11) (some 28) ?_
            exact norm_ (by simp only [putAll, Act.put, List.setIfInBounds_toArray, List.set_cons_zero, List.set_cons_succ]) (hCont (gb217) _ ⟨bk_, bk_, GW217.out, GE217.out, NB213_217.out, NB217_213.out, bl_⟩)
          rintro gb217 w24 ⟨h0_, h1_, h2_, h3_, h4_, h5_, h6_⟩
          have n0_ : Aside0 (w24.heap[gb213]? = some (.cells #[.int .i64 0, .int .i64 0, .int .i64 0] 23 (0, 0))) := ⟨h0_⟩
          have n1_ : Aside0 (w24.heap[gb217]? = some (.cells #[.int .i64 0, .int .i64 0, .int .i64 0] 23 (0, 0))) := ⟨h1_⟩
          have n2_ : Aside0 (w.heap.size ≤ gb217) := ⟨h2_⟩
          have n3_ : Aside0 (w.heap.size ≤ gb217) := ⟨h3_⟩
          have n4_ : Aside0 (gb213 ≠ gb217) := ⟨h4_⟩
          have n5_ : Aside0 (gb217 ≠ gb213) := ⟨h5_⟩
          have n6_ : Aside0 (Below w.heap.size w w24) := ⟨h6_⟩
          clear BK213; clear HB; clear h0_ h1_ h2_ h3_ h4_ h5_ h6_; have BK213 := n0_; have BK217 := n1_; have GW217 := n2_; have GE217 := n3_; have NB213_217 := n4_; have NB217_213 := n5_; have HB := n6_; clear n0_ n1_ n2_ n3_ n4_ n5_ n6_; have hHeld := trivial
          refine norm_ (a' := ?_) ?_ ?_
          rotate_left
          ·simp only [putAll, Act.put, List.setIfInBounds_toArray, List.set_cons_zero, List.set_cons_succ]
           rfl
          refine one_ (i := 11) (N := none) (bq 12 12) rfl rfl (one_of HT_.out (by kernel_rfl)) (by decide) (fun K hK => ?_)
          have hs25 : w24.cell? ⟨gb217, 0, none⟩ = some (.int .i64 0) := (blk_cell BK217.out 0).trans rfl; have hfs25 := blk_frozen BK217.out 0; have hns25_0 := NB213_217.out; have hms25_0 := NB217_213.out; have hs26 : w24.cell? ⟨gb217, 1, none⟩ = some (.int .i64 0) := (blk_cell BK217.out 1).trans rfl; have hfs26 := blk_frozen BK217.out 1; have hns26_0 := NB213_217.out; have hms26_0 := NB217_213.out; have hs27 : w24.cell? ⟨gb217, 2, none⟩ = some (.int .i64 0) := (blk_cell BK217.out 2).trans rfl; have hfs27 := blk_frozen BK217.out 2; have hns27_0 := NB213_217.out; have hms27_0 := NB217_213.out
          refine skip_ (w1 := ?_) (by rfl) rfl ?_ ?_
          rotate_left
          ·go_simp
           rfl
          refine hK.out _ _ trivial (fun hHeld => ?_)
          clear hK K
          refine done_ (done_of HT_.out (by kernel_rfl)) ?_
          have hnb28 := NB217_213.out; have hnc28 := NB213_217.out; have hcz29_0 : w24.cell? ⟨gb217, 0, none⟩ = some (.int .i64 0) := (blk_cell BK217.out 0).trans rfl; have hcz29_1 : w24.cell? ⟨gb217, 1, none⟩ = some (.int .i64 0) := (blk_cell BK217.out 1).trans rfl; have hcz29_2 : w24.cell? ⟨gb217, 2, none⟩ = some (.int .i64 0) := (blk_cell BK217.out 2).trans rfl; have hfz29_0 := blk_frozen BK217.out 0; have hfz29_1 := blk_frozen BK217.out 1; have hfz29_2 := blk_frozen BK217.out 2
          try go_wp2_with (first | ((with_reducible refine gate_callee (f := 14) rfl ?_); refine gd_ (some 30) Tryz.func14 (fuseeref07_May.calls kj1 t214 t215 t216 true _ A20.out) ?_; intro w30 hb; replace BK213 := Aside0.mk (blk_below (g := gb213) (o := .cells #[.int .i64 0, .int .i64 0, .int .i64 0] 23 (0, 0)) (by (with_reducible repeat first | apply blk_drewN | apply blk_drew | apply blk_alloc); refine blk_far ?_ NB213_217.out _; (with_reducible repeat first | apply blk_drewN | apply blk_drew | apply blk_alloc); refine blk_far ?_ NB213_217.out _; (with_reducible repeat first | apply blk_drewN | apply blk_drew | apply blk_alloc); refine blk_far ?_ NB213_217.out _; (with_reducible repeat first | apply blk_drewN | apply blk_drew | apply blk_alloc); exact BK213.out) hb); replace BK217 := Aside0.mk (blk_below (g := gb217) (o := .cells #[.int .i64 t214, .int .i64 t215, .int .i64 t216] 23 (0, 0)) (by (with_reducible repeat first | apply blk_drewN | apply blk_drew | apply blk_alloc); refine blk_put (cs := #[.int .i64 t214, .int .i64 t215, .int .i64 0]) ?_ 2 _ rfl; (with_reducible repeat first | apply blk_drewN | apply blk_drew | apply blk_alloc); refine blk_put (cs := #[.int .i64 t214, .int .i64 0, .int .i64 0]) ?_ 1 _ rfl; (with_reducible repeat first | apply blk_drewN | apply blk_drew | apply blk_alloc); refine blk_put (cs := #[.int .i64 0, .int .i64 0, .int .i64 0]) ?_ 0 _ rfl; (with_reducible repeat first | apply blk_drewN | apply blk_drew | apply blk_alloc); exact BK217.out) hb); replace HB := bs_ hb; (try clear hb); have hcz31_0 : w30.cell? ⟨gb217, 0, none⟩ = some (.int .i64 t214) := (blk_cell BK217.out 0).trans rfl; have hcz31_1 : w30.cell? ⟨gb217, 1, none⟩ = some (.int .i64 t215) := (blk_cell BK217.out 1).trans rfl; have hcz31_2 : w30.cell? ⟨gb217, 2, none⟩ = some (.int .i64 t216) := (blk_cell BK217.out 2).trans rfl; have hfz31_0 := blk_frozen BK217.out 0; have hfz31_1 := blk_frozen BK217.out 1; have hfz31_2 := blk_frozen BK217.out 2; have hcz32_0 : w30.cell? ⟨gb213, 0, none⟩ = some (.int .i64 0) := (blk_cell BK213.out 0).trans rfl; have hcz32_1 : w30.cell? ⟨gb213, 1, none⟩ = some (.int .i64 0) := (blk_cell BK213.out 1).trans rfl; have hcz32_2 : w30.cell? ⟨gb213, 2, none⟩ = some (.int .i64 0) := (blk_cell BK213.out 2).trans rfl; have hfz32_0 := blk_frozen BK213.out 0; have hfz32_1 := blk_frozen BK213.out 1; have hfz32_2 := blk_frozen BK213.out 2))
          refine bodyPost_ret (results_ct rfl _ _ gb213 23 #[.int .i64 t214, .int .i64 t215, .int .i64 t216] (0, 0) _ rfl (by (with_reducible repeat first | apply blk_drewN | apply blk_drew | apply blk_alloc); refine blk_put (cs := #[.int .i64 t214, .int .i64 t215, .int .i64 0]) ?_ 2 _ rfl; (with_reducible repeat first | apply blk_drewN | apply blk_drew | apply blk_alloc); refine blk_put (cs := #[.int .i64 t214, .int .i64 0, .int .i64 0]) ?_ 1 _ rfl; (with_reducible repeat first | apply blk_drewN | apply blk_drew | apply blk_alloc); refine blk_put (cs := #[.int .i64 0, .int .i64 0, .int .i64 0]) ?_ 0 _ rfl; (with_reducible repeat first | apply blk_drewN | apply blk_drew | apply blk_alloc); exact BK213.out) Tryz.underlying23 rfl (by kernel_rfl)) rfl ?_
          exact en_
         ·replace c21 := Bool.eq_false_iff.mpr c21; subst c21
          have H1 : (some (0, 0, 0, 3)) = some (r1, r2, r3, r4) := by rw [if_neg (show ¬ (false = true) by decide)] at H; exact H
          clear H; have H := H1; clear H1; simp only [Option.some.injEq, Prod.mk.injEq] at H; obtain ⟨rfl, rfl, rfl, rfl⟩ := H
          try go_wp2
          have n0_ := Aside0.mk (blk_drew BK213.out); have n1_ := Aside0.mk (below_drew1 HB.out); clear BK213; clear HB; have BK213 := n0_; have HB := n1_; clear n0_ n1_
          refine start_ (n := 12) (S := fun w' => True) (ds := []) (bq 12 0) (by kernel_rfl) rfl (by kernel_rfl) trivial (fun hHeld => ?_); refine with_tabW fuseeref07_Parse.tab3 fuseeref07_Parse.bits3 (fun HT_ HW_ => ?_)
          generalize wc.drew = w33 at BK213 HB hHeld ⊢
          refine pa 0 (bq 12 1) (some 19) ?_; refine pa 1 (bq 12 2) (some 20) ?_; refine pa 3 (bs 12 11) (some 22) ?_; refine pa 4 (bs 12 27) (some 23) ?_; refine pa 6 (bs 12 91) (some 25) ?_; refine pa 7 (bs 12 219) (some 26) ?_
          refine join_ (σ := Nat) 1 (bq 12 11) (fun s_ => [(21, .int .i64 t214), (24, .int .i64 t215), (27, .int .i64 t216), (4, .pointer (some ⟨s_, 0, none⟩)), (28, .agg #[.int .i64 t214, .int .i64 t215, .int .i64 t216])]) (fun s_ w' => (w'.heap[gb213]? = some (.cells #[.int .i64 0, .int .i64 0, .int .i64 0] 23 (0, 0))) ∧ (w'.heap[s_]? = some (.cells #[.int .i64 0, .int .i64 0, .int .i64 0] 23 (0, 0))) ∧ (w.heap.size ≤ s_) ∧ (w.heap.size ≤ s_) ∧ (gb213 ≠ s_) ∧ (s_ ≠ gb213) ∧ (Below w.heap.size w w')) ?_ ?_
          rotate_left
          ·intro hCont
           refine two_ (i := 2) (j := 10) (Ni := some 21) (Nj := some 4) (bs 12 223) (bs 12 1243) rfl rfl rfl rfl (two_of HT_.out (by kernel_rfl)) (by decide) (by decide) (fun K hK => ?_) (fun K hK => ?_)
           ·skip
            refine goes_ Tryz.func98 (by kernel_rfl) rfl #[.string (a0.extract 0 4)] (by rfl) rfl rfl ev_ ?_
            with_reducible refine (fuseeref07_Digits.calls kj1 (a0.extract 0 4) t214 _ A14.out).mono ?_
            rintro e w' ⟨rfl, ⟨nd, rfl⟩⟩
            refine ⟨_, rfl, ?_⟩
            refine hK.out _ _ trivial (fun hHeld => ?_)
            clear hK K
            refine norm_ (a' := ?_) ?_ ?_
            rotate_left
            ·show Act.put _ (some 21) _ = _
             simp only [Act.put, List.setIfInBounds_toArray, List.set_cons_zero, List.set_cons_succ, i64_w, i32_w]
             rfl
            refine two_ (i := 5) (j := 10) (Ni := some 24) (Nj := some 4) (bq 12 8) (bs 12 1247) rfl rfl rfl rfl (two_of HT_.out (by kernel_rfl)) (by decide) (by decide) (fun K hK => ?_) (fun K hK => ?_)
            ·skip
             refine goes_ Tryz.func98 (by kernel_rfl) rfl #[.string (a0.extract 5 7)] (by rfl) rfl rfl ev_ ?_
             with_reducible refine (fuseeref07_Digits.calls kj1 (a0.extract 5 7) t215 _ A17.out).mono ?_
             rintro e w' ⟨rfl, ⟨nd, rfl⟩⟩
             refine ⟨_, rfl, ?_⟩
             refine hK.out _ _ trivial (fun hHeld => ?_)
             clear hK K
             refine norm_ (a' := ?_) ?_ ?_
             rotate_left
             ·show Act.put _ (some 24) _ = _
              simp only [Act.put, List.setIfInBounds_toArray, List.set_cons_zero, List.set_cons_succ, i64_w, i32_w]
              rfl
             refine two_ (i := 8) (j := 10) (Ni := some 27) (Nj := some 4) (bq 12 9) (bs 12 1279) rfl rfl rfl rfl (two_of HT_.out (by kernel_rfl)) (by decide) (by decide) (fun K hK => ?_) (fun K hK => ?_)
             ·skip
              refine goes_ Tryz.func98 (by kernel_rfl) rfl #[.string (a0.extract 8 a0.size)] (by rfl) rfl rfl ev_ ?_
              with_reducible refine (fuseeref07_Digits.calls kj1 (a0.extract 8 a0.size) t216 _ A19.out).mono ?_
              rintro e w' ⟨rfl, ⟨nd, rfl⟩⟩
              refine ⟨_, rfl, ?_⟩
              refine hK.out _ _ trivial (fun hHeld => ?_)
              clear hK K
              refine norm_ (a' := ?_) ?_ ?_
              rotate_left
              ·show Act.put _ (some 27) _ = _
               simp only [Act.put, List.setIfInBounds_toArray, List.set_cons_zero, List.set_cons_succ, i64_w, i32_w]
               rfl
              refine pa 9 (bq 12 10) (some 28) ?_
              refine one_ (i := 10) (N := some 4) (bq 12 11) rfl rfl (one_of HT_.out (by kernel_rfl)) (by decide) (fun K hK => ?_)
              refine box_step ?hg (N := 4) ?hd (cs := #[.int .i64 0, .int .i64 0, .int .i64 0]) (t := 23) ?hr ?_; (case hd => rfl); (case hg => rfl); (case hr => first | (go_simp; done) | (go_simp; rfl))
              intro gb217 hg w34 hbox hb
              have n0_ := Aside0.mk (blk_below (g := gb213) (o := .cells #[.int .i64 0, .int .i64 0, .int .i64 0] 23 (0, 0)) bk_ hb); have n1_ := bs_ hb; have n2_ := Aside0.mk hbox; have n3_ := Aside0.mk (sz_ hg : w.heap.size ≤ gb217); have n4_ := Aside0.mk (sz_ hg : w.heap.size ≤ gb217); have n5_ := Aside0.mk ((by rw [hg]; exact Nat.ne_of_lt (blk_lt (g := gb213) (o := .cells #[.int .i64 0, .int .i64 0, .int .i64 0] 23 (0, 0)) bk_) : gb213 ≠ gb217)); have n6_ := Aside0.mk ((by rw [hg]; exact Nat.ne_of_gt (blk_lt (g := gb213) (o := .cells #[.int .i64 0, .int .i64 0, .int .i64 0] 23 (0, 0)) bk_) : gb217 ≠ gb213)); clear BK213; clear HB; have BK213 := n0_; have HB := n1_; have BK217 := n2_; have GW217 := n3_; have GE217 := n4_; have NB213_217 := n5_; have NB217_213 := n6_; clear n0_ n1_ n2_ n3_ n4_ n5_ n6_; clear hb hbox hg
              refine hK.out _ _ trivial (fun hHeld => ?_)
              clear hK K
              refine norm_ (a' := ?_) ?_ ?_
              rotate_left
              ·show Act.put _ (some 4) _ = _
               simp only [Act.put, List.setIfInBounds_toArray, List.set_cons_zero, List.set_cons_succ, i64_w, i32_w]
               rfl
              exact norm_ (by simp only [putAll, Act.put, List.setIfInBounds_toArray, List.set_cons_zero, List.set_cons_succ]) (hCont (gb217) _ ⟨bk_, bk_, GW217.out, GE217.out, NB213_217.out, NB217_213.out, bl_⟩)
             ·skip
              refine box_step ?hg (N := 4) ?hd (cs := #[.int .i64 0, .int .i64 0, .int .i64 0]) (t := 23) ?hr ?_; (case hd => rfl); (case hg => rfl); (case hr => first | (go_simp; done) | (go_simp; rfl))
              intro gb217 hg w34 hbox hb
              have n0_ := Aside0.mk (blk_below (g := gb213) (o := .cells #[.int .i64 0, .int .i64 0, .int .i64 0] 23 (0, 0)) bk_ hb); have n1_ := bs_ hb; have n2_ := Aside0.mk hbox; have n3_ := Aside0.mk (sz_ hg : w.heap.size ≤ gb217); have n4_ := Aside0.mk (sz_ hg : w.heap.size ≤ gb217); have n5_ := Aside0.mk ((by rw [hg]; exact Nat.ne_of_lt (blk_lt (g := gb213) (o := .cells #[.int .i64 0, .int .i64 0, .int .i64 0] 23 (0, 0)) bk_) : gb213 ≠ gb217)); have n6_ := Aside0.mk ((by rw [hg]; exact Nat.ne_of_gt (blk_lt (g := gb213) (o := .cells #[.int .i64 0, .int .i64 0, .int .i64 0] 23 (0, 0)) bk_) : gb217 ≠ gb213)); clear BK213; clear HB; have BK213 := n0_; have HB := n1_; have BK217 := n2_; have GW217 := n3_; have GE217 := n4_; have NB213_217 := n5_; have NB217_213 := n6_; clear n0_ n1_ n2_ n3_ n4_ n5_ n6_; clear hb hbox hg
              refine hK.out _ _ trivial (fun hHeld => ?_)
              clear hK K
              refine norm_ (a' := ?_) ?_ ?_
              rotate_left
              ·show Act.put _ (some 4) _ = _
               simp only [Act.put, List.setIfInBounds_toArray, List.set_cons_zero, List.set_cons_succ, i64_w, i32_w]
               rfl
              refine one_ (i := 8) (N := some 27) (bs 12 1535) rfl rfl (one_of HT_.out (by kernel_rfl)) (by decide) (fun K hK => ?_)
              refine goes_ Tryz.func98 (by kernel_rfl) rfl #[.string (a0.extract 8 a0.size)] (by rfl) rfl rfl ev_ ?_
              with_reducible refine (fuseeref07_Digits.calls kj1 (a0.extract 8 a0.size) t216 _ A19.out).mono ?_
              rintro e w' ⟨rfl, ⟨nd, rfl⟩⟩
              refine ⟨_, rfl, ?_⟩
              refine hK.out _ _ trivial (fun hHeld => ?_)
              clear hK K
              refine norm_ (a' := ?_) ?_ ?_
              rotate_left
              ·show Act.put _ (some 27) _ = _
               simp only [Act.put, List.setIfInBounds_toArray, List.set_cons_zero, List.set_cons_succ, i64_w, i32_w]
               rfl
              refine pa 9 (bq 12 11) (some 28) ?_
              exact norm_ (by simp only [putAll, Act.put, List.setIfInBounds_toArray, List.set_cons_zero, List.set_cons_succ]) (hCont (gb217) _ ⟨bk_, bk_, GW217.out, GE217.out, NB213_217.out, NB217_213.out, bl_⟩)
            ·skip
             refine box_step ?hg (N := 4) ?hd (cs := #[.int .i64 0, .int .i64 0, .int .i64 0]) (t := 23) ?hr ?_; (case hd => rfl); (case hg => rfl); (case hr => first | (go_simp; done) | (go_simp; rfl))
             intro gb217 hg w34 hbox hb
             have n0_ := Aside0.mk (blk_below (g := gb213) (o := .cells #[.int .i64 0, .int .i64 0, .int .i64 0] 23 (0, 0)) bk_ hb); have n1_ := bs_ hb; have n2_ := Aside0.mk hbox; have n3_ := Aside0.mk (sz_ hg : w.heap.size ≤ gb217); have n4_ := Aside0.mk (sz_ hg : w.heap.size ≤ gb217); have n5_ := Aside0.mk ((by rw [hg]; exact Nat.ne_of_lt (blk_lt (g := gb213) (o := .cells #[.int .i64 0, .int .i64 0, .int .i64 0] 23 (0, 0)) bk_) : gb213 ≠ gb217)); have n6_ := Aside0.mk ((by rw [hg]; exact Nat.ne_of_gt (blk_lt (g := gb213) (o := .cells #[.int .i64 0, .int .i64 0, .int .i64 0] 23 (0, 0)) bk_) : gb217 ≠ gb213)); clear BK213; clear HB; have BK213 := n0_; have HB := n1_; have BK217 := n2_; have GW217 := n3_; have GE217 := n4_; have NB213_217 := n5_; have NB217_213 := n6_; clear n0_ n1_ n2_ n3_ n4_ n5_ n6_; clear hb hbox hg
             refine hK.out _ _ trivial (fun hHeld => ?_)
             clear hK K
             refine norm_ (a' := ?_) ?_ ?_
             rotate_left
             ·show Act.put _ (some 4) _ = _
              simp only [Act.put, List.setIfInBounds_toArray, List.set_cons_zero, List.set_cons_succ, i64_w, i32_w]
              rfl
             refine one_ (i := 5) (N := some 24) (bs 12 1279) rfl rfl (one_of HT_.out (by kernel_rfl)) (by decide) (fun K hK => ?_)
             refine goes_ Tryz.func98 (by kernel_rfl) rfl #[.string (a0.extract 5 7)] (by rfl) rfl rfl ev_ ?_
             with_reducible refine (fuseeref07_Digits.calls kj1 (a0.extract 5 7) t215 _ A17.out).mono ?_
             rintro e w' ⟨rfl, ⟨nd, rfl⟩⟩
             refine ⟨_, rfl, ?_⟩
             refine hK.out _ _ trivial (fun hHeld => ?_)
             clear hK K
             refine norm_ (a' := ?_) ?_ ?_
             rotate_left
             ·show Act.put _ (some 24) _ = _
              simp only [Act.put, List.setIfInBounds_toArray, List.set_cons_zero, List.set_cons_succ, i64_w, i32_w]
              rfl
             refine one_ (i := 8) (N := some 27) (bs 12 1535) rfl rfl (one_of HT_.out (by kernel_rfl)) (by decide) (fun K hK => ?_)
             refine goes_ Tryz.func98 (by kernel_rfl) rfl #[.string (a0.extract 8 a0.size)] (by rfl) rfl rfl ev_ ?_
             with_reducible refine (fuseeref07_Digits.calls kj1 (a0.extract 8 a0.size) t216 _ A19.out).mono ?_
             rintro e w' ⟨rfl, ⟨nd, rfl⟩⟩
             refine ⟨_, rfl, ?_⟩
             refine hK.out _ _ trivial (fun hHeld => ?_)
             clear hK K
             refine norm_ (a' := ?_) ?_ ?_
             rotate_left
             ·show Act.put _ (some 27) _ = _
              simp only [Act.put, List.setIfInBounds_toArray, List.set_cons_zero, List.set_cons_succ, i64_w, i32_w]
              rfl
             refine pa 9 (bq 12 11) (some 28) ?_
             exact norm_ (by simp only [putAll, Act.put, List.setIfInBounds_toArray, List.set_cons_zero, List.set_cons_succ]) (hCont (gb217) _ ⟨bk_, bk_, GW217.out, GE217.out, NB213_217.out, NB217_213.out, bl_⟩)
           ·skip
            refine box_step ?hg (N := 4) ?hd (cs := #[.int .i64 0, .int .i64 0, .int .i64 0]) (t := 23) ?hr ?_; (case hd => rfl); (case hg => rfl); (case hr => first | (go_simp; done) | (go_simp; rfl))
            intro gb217 hg w34 hbox hb
            have n0_ := Aside0.mk (blk_below (g := gb213) (o := .cells #[.int .i64 0, .int .i64 0, .int .i64 0] 23 (0, 0)) bk_ hb); have n1_ := bs_ hb; have n2_ := Aside0.mk hbox; have n3_ := Aside0.mk (sz_ hg : w.heap.size ≤ gb217); have n4_ := Aside0.mk (sz_ hg : w.heap.size ≤ gb217); have n5_ := Aside0.mk ((by rw [hg]; exact Nat.ne_of_lt (blk_lt (g := gb213) (o := .cells #[.int .i64 0, .int .i64 0, .int .i64 0] 23 (0, 0)) bk_) : gb213 ≠ gb217)); have n6_ := Aside0.mk ((by rw [hg]; exact Nat.ne_of_gt (blk_lt (g := gb213) (o := .cells #[.int .i64 0, .int .i64 0, .int .i64 0] 23 (0, 0)) bk_) : gb217 ≠ gb213)); clear BK213; clear HB; have BK213 := n0_; have HB := n1_; have BK217 := n2_; have GW217 := n3_; have GE217 := n4_; have NB213_217 := n5_; have NB217_213 := n6_; clear n0_ n1_ n2_ n3_ n4_ n5_ n6_; clear hb hbox hg
            refine hK.out _ _ trivial (fun hHeld => ?_)
            clear hK K
            refine norm_ (a' := ?_) ?_ ?_
            rotate_left
            ·show Act.put _ (some 4) _ = _
             simp only [Act.put, List.setIfInBounds_toArray, List.set_cons_zero, List.set_cons_succ, i64_w, i32_w]
             rfl
            refine one_ (i := 2) (N := some 21) (bs 12 1247) rfl rfl (one_of HT_.out (by kernel_rfl)) (by decide) (fun K hK => ?_)
            refine goes_ Tryz.func98 (by kernel_rfl) rfl #[.string (a0.extract 0 4)] (by rfl) rfl rfl ev_ ?_
            with_reducible refine (fuseeref07_Digits.calls kj1 (a0.extract 0 4) t214 _ A14.out).mono ?_
            rintro e w' ⟨rfl, ⟨nd, rfl⟩⟩
            refine ⟨_, rfl, ?_⟩
            refine hK.out _ _ trivial (fun hHeld => ?_)
            clear hK K
            refine norm_ (a' := ?_) ?_ ?_
            rotate_left
            ·show Act.put _ (some 21) _ = _
             simp only [Act.put, List.setIfInBounds_toArray, List.set_cons_zero, List.set_cons_succ, i64_w, i32_w]
             rfl
            refine one_ (i := 5) (N := some 24) (bs 12 1279) rfl rfl (one_of HT_.out (by kernel_rfl)) (by decide) (fun K hK => ?_)
            refine goes_ Tryz.func98 (by kernel_rfl) rfl #[.string (a0.extract 5 7)] (by rfl) rfl rfl ev_ ?_
            with_reducible refine (fuseeref07_Digits.calls kj1 (a0.extract 5 7) t215 _ A17.out).mono ?_
            rintro e w' ⟨rfl, ⟨nd, rfl⟩⟩
            refine ⟨_, rfl, ?_⟩
            refine hK.out _ _ trivial (fun hHeld => ?_)
            clear hK K
            refine norm_ (a' := ?_) ?_ ?_
            rotate_left
            ·show Act.put _ (some 24) _ = _
             simp only [Act.put, List.setIfInBounds_toArray, List.set_cons_zero, List.set_cons_succ, i64_w, i32_w]
             rfl
            refine one_ (i := 8) (N := some 27) (bs 12 1535) rfl rfl (one_of HT_.out (by kernel_rfl)) (by decide) (fun K hK => ?_)
            refine goes_ Tryz.func98 (by kernel_rfl) rfl #[.string (a0.extract 8 a0.size)] (by rfl) rfl rfl ev_ ?_
            with_reducible refine (fuseeref07_Digits.calls kj1 (a0.extract 8 a0.size) t216 _ A19.out).mono ?_
            rintro e w' ⟨rfl, ⟨nd, rfl⟩⟩
            refine ⟨_, rfl, ?_⟩
            refine hK.out _ _ trivial (fun hHeld => ?_)
            clear hK K
            refine norm_ (a' := ?_) ?_ ?_
            rotate_left
            ·show Act.put _ (some 27) _ = _
             simp only [Act.put, List.setIfInBounds_toArray, List.set_cons_zero, List.set_cons_succ, i64_w, i32_w]
             rfl
            refine pa 9 (bq 12 11) (some 28) ?_
            exact norm_ (by simp only [putAll, Act.put, List.setIfInBounds_toArray, List.set_cons_zero, List.set_cons_succ]) (hCont (gb217) _ ⟨bk_, bk_, GW217.out, GE217.out, NB213_217.out, NB217_213.out, bl_⟩)
          rintro gb217 w35 ⟨h0_, h1_, h2_, h3_, h4_, h5_, h6_⟩
          have n0_ : Aside0 (w35.heap[gb213]? = some (.cells #[.int .i64 0, .int .i64 0, .int .i64 0] 23 (0, 0))) := ⟨h0_⟩
          have n1_ : Aside0 (w35.heap[gb217]? = some (.cells #[.int .i64 0, .int .i64 0, .int .i64 0] 23 (0, 0))) := ⟨h1_⟩
          have n2_ : Aside0 (w.heap.size ≤ gb217) := ⟨h2_⟩
          have n3_ : Aside0 (w.heap.size ≤ gb217) := ⟨h3_⟩
          have n4_ : Aside0 (gb213 ≠ gb217) := ⟨h4_⟩
          have n5_ : Aside0 (gb217 ≠ gb213) := ⟨h5_⟩
          have n6_ : Aside0 (Below w.heap.size w w35) := ⟨h6_⟩
          clear BK213; clear HB; clear h0_ h1_ h2_ h3_ h4_ h5_ h6_; have BK213 := n0_; have BK217 := n1_; have GW217 := n2_; have GE217 := n3_; have NB213_217 := n4_; have NB217_213 := n5_; have HB := n6_; clear n0_ n1_ n2_ n3_ n4_ n5_ n6_; have hHeld := trivial
          refine norm_ (a' := ?_) ?_ ?_
          rotate_left
          ·simp only [putAll, Act.put, List.setIfInBounds_toArray, List.set_cons_zero, List.set_cons_succ]
           rfl
          refine one_ (i := 11) (N := none) (bq 12 12) rfl rfl (one_of HT_.out (by kernel_rfl)) (by decide) (fun K hK => ?_)
          have hs36 : w35.cell? ⟨gb217, 0, none⟩ = some (.int .i64 0) := (blk_cell BK217.out 0).trans rfl; have hfs36 := blk_frozen BK217.out 0; have hns36_0 := NB213_217.out; have hms36_0 := NB217_213.out; have hs37 : w35.cell? ⟨gb217, 1, none⟩ = some (.int .i64 0) := (blk_cell BK217.out 1).trans rfl; have hfs37 := blk_frozen BK217.out 1; have hns37_0 := NB213_217.out; have hms37_0 := NB217_213.out; have hs38 : w35.cell? ⟨gb217, 2, none⟩ = some (.int .i64 0) := (blk_cell BK217.out 2).trans rfl; have hfs38 := blk_frozen BK217.out 2; have hns38_0 := NB213_217.out; have hms38_0 := NB217_213.out
          refine skip_ (w1 := ?_) (by rfl) rfl ?_ ?_
          rotate_left
          ·go_simp
           rfl
          refine hK.out _ _ trivial (fun hHeld => ?_)
          clear hK K
          refine done_ (done_of HT_.out (by kernel_rfl)) ?_
          have hnb39 := NB217_213.out; have hnc39 := NB213_217.out; have hcz40_0 : w35.cell? ⟨gb217, 0, none⟩ = some (.int .i64 0) := (blk_cell BK217.out 0).trans rfl; have hcz40_1 : w35.cell? ⟨gb217, 1, none⟩ = some (.int .i64 0) := (blk_cell BK217.out 1).trans rfl; have hcz40_2 : w35.cell? ⟨gb217, 2, none⟩ = some (.int .i64 0) := (blk_cell BK217.out 2).trans rfl; have hfz40_0 := blk_frozen BK217.out 0; have hfz40_1 := blk_frozen BK217.out 1; have hfz40_2 := blk_frozen BK217.out 2
          try go_wp2_with (first | ((with_reducible refine gate_callee (f := 14) rfl ?_); refine gd_ (some 30) Tryz.func14 (fuseeref07_May.calls kj1 t214 t215 t216 false _ A20.out) ?_; intro w41 hb; replace BK213 := Aside0.mk (blk_below (g := gb213) (o := .cells #[.int .i64 0, .int .i64 0, .int .i64 0] 23 (0, 0)) (by (with_reducible repeat first | apply blk_drewN | apply blk_drew | apply blk_alloc); refine blk_far ?_ NB213_217.out _; (with_reducible repeat first | apply blk_drewN | apply blk_drew | apply blk_alloc); refine blk_far ?_ NB213_217.out _; (with_reducible repeat first | apply blk_drewN | apply blk_drew | apply blk_alloc); refine blk_far ?_ NB213_217.out _; (with_reducible repeat first | apply blk_drewN | apply blk_drew | apply blk_alloc); exact BK213.out) hb); replace BK217 := Aside0.mk (blk_below (g := gb217) (o := .cells #[.int .i64 t214, .int .i64 t215, .int .i64 t216] 23 (0, 0)) (by (with_reducible repeat first | apply blk_drewN | apply blk_drew | apply blk_alloc); refine blk_put (cs := #[.int .i64 t214, .int .i64 t215, .int .i64 0]) ?_ 2 _ rfl; (with_reducible repeat first | apply blk_drewN | apply blk_drew | apply blk_alloc); refine blk_put (cs := #[.int .i64 t214, .int .i64 0, .int .i64 0]) ?_ 1 _ rfl; (with_reducible repeat first | apply blk_drewN | apply blk_drew | apply blk_alloc); refine blk_put (cs := #[.int .i64 0, .int .i64 0, .int .i64 0]) ?_ 0 _ rfl; (with_reducible repeat first | apply blk_drewN | apply blk_drew | apply blk_alloc); exact BK217.out) hb); replace HB := bs_ hb; (try clear hb); have hcz42_0 : w41.cell? ⟨gb213, 0, none⟩ = some (.int .i64 0) := (blk_cell BK213.out 0).trans rfl; have hcz42_1 : w41.cell? ⟨gb213, 1, none⟩ = some (.int .i64 0) := (blk_cell BK213.out 1).trans rfl; have hcz42_2 : w41.cell? ⟨gb213, 2, none⟩ = some (.int .i64 0) := (blk_cell BK213.out 2).trans rfl; have hfz42_0 := blk_frozen BK213.out 0; have hfz42_1 := blk_frozen BK213.out 1; have hfz42_2 := blk_frozen BK213.out 2))
          refine bodyPost_ret (results_ct rfl _ _ gb213 23 #[.int .i64 0, .int .i64 0, .int .i64 0] (0, 0) _ rfl (by (with_reducible repeat first | apply blk_drewN | apply blk_drew | apply blk_alloc); refine blk_put (cs := #[.int .i64 0, .int .i64 0, .int .i64 0]) ?_ 2 _ rfl; (with_reducible repeat first | apply blk_drewN | apply blk_drew | apply blk_alloc); refine blk_put (cs := #[.int .i64 0, .int .i64 0, .int .i64 0]) ?_ 1 _ rfl; (with_reducible repeat first | apply blk_drewN | apply blk_drew | apply blk_alloc); refine blk_put (cs := #[.int .i64 0, .int .i64 0, .int .i64 0]) ?_ 0 _ rfl; (with_reducible repeat first | apply blk_drewN | apply blk_drew | apply blk_alloc); exact BK213.out) Tryz.underlying23 rfl (by kernel_rfl)) rfl ?_
          exact en_
        ·rw [if_neg c18] at H; exact absurd H (by simp)
       ·rw [if_neg c16] at H; exact absurd H (by simp)
      ·rw [if_neg c15] at H; exact absurd H (by simp)
     ·rw [if_neg c13] at H; exact absurd H (by simp)
    ·rw [if_neg c12] at H; exact absurd H (by simp)
end Go.Proofs.YtfjifhkgifefeaaGreatDoor.PA
end

section
/- The document's texts of dates: Two, Text, Digits, Parse, in plain words. -/
namespace Go.Proofs.YtfjifhkgifefeaaGreatDoor.CivP
open Go.RowKit Go.Proofs.YtfjifhkgifefeaaGreatDoor.PA Go.Proofs.YtfjifhkgifefeaaGreatDoor.CivM Go.Proofs.YtfjifhkgifefeaaGreatDoor.StrM Go.Proofs.YtfjifhkgifefeaaGreatDoorW.PrintWords
theorem digit_at (d : Int) (h0 : 0 ≤ d) (h1 : d ≤ 9) : (⟨#[48, 49, 50, 51, 52, 53, 54, 55, 56, 57]⟩ : ByteArray).extract d.toNat (d + 1).toNat = ⟨[dg d].toArray⟩ := by
  have : d = 0 ∨ d = 1 ∨ d = 2 ∨ d = 3 ∨ d = 4 ∨ d = 5 ∨ d = 6 ∨ d = 7 ∨ d = 8 ∨ d = 9 := by omega
  rcases this with rfl | rfl | rfl | rfl | rfl | rfl | rfl | rfl | rfl | rfl <;> decide
/-- one round of Two. -/
theorem two_step (k : Nat) (x0 x1 x6 : Int) (l : List UInt8) (h : x6 < x1) (hx : 0 ≤ x0) (hx2 : x0 ≤ 9223372036854775807) (h6 : 0 ≤ x6) (h1 : x1 ≤ 100) (hl : l.length ≤ 1000) :
    fuseeref07_Two.l0 (k + 1) x0 x1 ⟨l.toArray⟩ x6 = fuseeref07_Two.l0 k (x0 / 10) x1 ⟨(dg (x0 % 10) :: l).toArray⟩ (x6 + 1) := by
  simp only [fuseeref07_Two.l0]
  have b0 : 0 ≤ x0 % 10 ∧ x0 % 10 ≤ 9 := by omega
  rw [if_pos h, tmd hx, tdv hx, wid (by omega) (by omega), wid (by omega) (by omega), wid (by omega) (by omega), if_pos b0.1, if_pos (by omega), if_pos (by omega), digit_at _ b0.1 b0.2, ba_size, ba_size, if_pos (by simp; omega), ba_app]
  rfl
theorem two_end (k : Nat) (x0 x1 : Int) (l : ByteArray) : fuseeref07_Two.l0 (k + 1) x0 x1 l x1 = some l := by
  simp only [fuseeref07_Two.l0]; rw [if_neg (by omega)]
theorem two2 (k : Nat) (n : Int) (hk : 3 ≤ k) (h0 : 0 ≤ n) (h1 : n ≤ 99) : fuseeref07_Two.f k n 2 = some ⟨(padded 2 n).toArray⟩ := by
  obtain ⟨k, rfl⟩ : ∃ j, k = j + 3 := ⟨k - 3, by omega⟩
  unfold fuseeref07_Two.f
  have e : (⟨#[]⟩ : ByteArray) = ⟨([] : List UInt8).toArray⟩ := rfl; rw [e, two_step _ _ _ _ _ (by omega) h0 (by omega) (by omega) (by omega) (by simp), two_step _ _ _ _ _ (by omega) (by omega) (by omega) (by omega) (by omega) (by simp)]; rw [show (0 : Int) + 1 + 1 = 2 from rfl, two_end, padded2 n h0 h1]
  have : n / 10 % 10 = n / 10 := by omega
  rw [this]
theorem two4 (k : Nat) (n : Int) (hk : 5 ≤ k) (h0 : 0 ≤ n) (h1 : n ≤ 9999) : fuseeref07_Two.f k n 4 = some ⟨(padded 4 n).toArray⟩ := by
  obtain ⟨k, rfl⟩ : ∃ j, k = j + 5 := ⟨k - 5, by omega⟩
  unfold fuseeref07_Two.f
  have e : (⟨#[]⟩ : ByteArray) = ⟨([] : List UInt8).toArray⟩ := rfl
  rw [e, two_step _ _ _ _ _ (by omega) h0 (by omega) (by omega) (by omega) (by simp), two_step _ _ _ _ _ (by omega) (by omega) (by omega) (by omega) (by omega) (by simp),
    two_step _ _ _ _ _ (by omega) (by omega) (by omega) (by omega) (by omega) (by simp), two_step _ _ _ _ _ (by omega) (by omega) (by omega) (by omega) (by omega) (by simp)]
  rw [show (0 : Int) + 1 + 1 + 1 + 1 = 4 from rfl, two_end, padded4 n h0 h1]
  have a1 : n / 10 / 10 / 10 % 10 = n / 1000 := by omega
  have a2 : n / 10 / 10 % 10 = n / 100 % 10 := by omega
  rw [a1, a2]
theorem rtext (k : Nat) (y m d : Int) (hk : 5 ≤ k) (v : vld y m d) : fuseeref07_Text.f k y m d = some ⟨(dtext y m d).toArray⟩ := by
  obtain ⟨h1, h2, h3, h4, h5, h6⟩ := id v; have hd := dim_bd y m; have L4 := padded_len4 y (by omega) h2; have L2 := padded_len2 m (by omega) (by omega); have L3 := padded_len2 d (by omega) (by omega); have e45 : (⟨#[45]⟩ : ByteArray) = ⟨([45] : List UInt8).toArray⟩ := rfl
  unfold fuseeref07_Text.f
  rw [two4 k y hk (by omega) h2, two2 k m (by omega) (by omega) (by omega), two2 k d (by omega) (by omega) (by omega)]; simp only [Option.bind_some, e45, ba_app, ba_size, List.length_append, L4, L2, L3, List.length_cons, List.length_nil]; rw [if_pos (by omega), if_pos (by omega), if_pos (by omega), if_pos (by omega)]
  simp [dtext]
theorem dig_step (k : Nat) (s : ByteArray) (x3 x4 : Int) (c : UInt8) (h0 : 0 ≤ x4) (h : x4 < (s.size : Int)) (hb : bt s x4 = c.toNat) (h3 : 0 ≤ x3) (h3' : x3 ≤ 100000) (h4 : x4 ≤ 1000) :
    fuseeref07_Digits.l0 (k + 1) s x3 x4 = if dgt c = true then fuseeref07_Digits.l0 k s (10 * x3 + dv c) (x4 + 1) else some (-1) := by
  have hc : c.toNat < 256 := c.toNat_lt; simp only [fuseeref07_Digits.l0]; rw [if_pos h, if_pos h0, hb]
  by_cases hd : dgt c = true
  · rw [if_pos hd]; rw [dgt_iff] at hd; rw [if_neg (by omega), if_neg (by omega), if_neg (by omega)]
    have e : ((c.toNat : Int) - 48) % 256 = dv c := by unfold dv; omega
    have := dv_bd c (by rw [dgt_iff]; exact hd); rw [e, wid (x := 10 * x3) (by omega) (by omega), wid (by omega) (by omega), wid (by omega) (by omega)]
  · rw [if_neg hd]; rw [dgt_iff] at hd
    by_cases l : (c.toNat : Int) < 48
    · rw [if_pos l]
    · rw [if_neg l, if_pos (by omega)]
theorem dig_end (k : Nat) (s : ByteArray) (x3 x4 : Int) (h : (s.size : Int) ≤ x4) : fuseeref07_Digits.l0 (k + 1) s x3 x4 = some x3 := by
  simp only [fuseeref07_Digits.l0]; rw [if_neg (by omega)]
theorem rdig2 (k : Nat) (a b : UInt8) (hk : 3 ≤ k) : fuseeref07_Digits.f k ⟨#[a, b]⟩ = some (if dgt a = true ∧ dgt b = true then 10 * dv a + dv b else -1) := by
  obtain ⟨k, rfl⟩ : ∃ j, k = j + 3 := ⟨k - 3, by omega⟩
  have hs : (⟨#[a, b]⟩ : ByteArray).size = 2 := rfl
  unfold fuseeref07_Digits.f
  rw [dig_step _ _ _ _ a (by omega) (by rw [hs]; omega) rfl (by omega) (by omega) (by omega)]
  by_cases ha : dgt a = true
  rotate_left
  · rw [if_neg ha, if_neg (fun c => ha c.1)]
  rw [if_pos ha]; have va := dv_bd a ha; rw [dig_step _ _ _ _ b (by omega) (by rw [hs]; omega) rfl (by omega) (by omega) (by omega)]
  by_cases hb : dgt b = true
  rotate_left
  · rw [if_neg hb, if_neg (fun c => hb c.2)]
  rw [if_pos hb, if_pos ⟨ha, hb⟩, dig_end _ _ _ _ (by rw [hs]; omega)]
  congr 1; omega
theorem rdig4 (k : Nat) (a b c d : UInt8) (hk : 5 ≤ k) : fuseeref07_Digits.f k ⟨#[a, b, c, d]⟩ = some (if dgt a = true ∧ dgt b = true ∧ dgt c = true ∧ dgt d = true then 1000 * dv a + 100 * dv b + 10 * dv c + dv d else -1) := by
  obtain ⟨k, rfl⟩ : ∃ j, k = j + 5 := ⟨k - 5, by omega⟩
  have hs : (⟨#[a, b, c, d]⟩ : ByteArray).size = 4 := rfl
  unfold fuseeref07_Digits.f
  rw [dig_step _ _ _ _ a (by omega) (by rw [hs]; omega) rfl (by omega) (by omega) (by omega)]
  by_cases ha : dgt a = true
  rotate_left
  · rw [if_neg ha, if_neg (fun c => ha c.1)]
  rw [if_pos ha]; have va := dv_bd a ha; rw [dig_step _ _ _ _ b (by omega) (by rw [hs]; omega) rfl (by omega) (by omega) (by omega)]
  by_cases hb : dgt b = true
  rotate_left
  · rw [if_neg hb, if_neg (fun c => hb c.2.1)]
  rw [if_pos hb]; have vb := dv_bd b hb; rw [dig_step _ _ _ _ c (by omega) (by rw [hs]; omega) rfl (by omega) (by omega) (by omega)]
  by_cases hc : dgt c = true
  rotate_left
  · rw [if_neg hc, if_neg (fun c => hc c.2.2.1)]
  rw [if_pos hc]; have vc := dv_bd c hc; rw [dig_step _ _ _ _ d (by omega) (by rw [hs]; omega) rfl (by omega) (by omega) (by omega)]
  by_cases hd : dgt d = true
  rotate_left
  · rw [if_neg hd, if_neg (fun c => hd c.2.2.2)]
  rw [if_pos hd, if_pos ⟨ha, hb, hc, hd⟩, dig_end _ _ _ _ (by rw [hs]; omega)]
  congr 1; omega
theorem dateOf_len {l : List UInt8} (h : l.length ≠ 10) : dateOf l = none := by
  unfold dateOf
  split
  · simp at h
  · rfl
theorem rparse (k : Nat) (s : ByteArray) (hk : 6 ≤ k) : fuseeref07_Parse.f k s = some (match dateOf s.data.toList with | some (y, m, d) => (y, m, d, 0) | none => (0, 0, 0, 3)) := by
  obtain ⟨k, rfl⟩ : ∃ j, k = j + 1 := ⟨k - 1, by omega⟩
  unfold fuseeref07_Parse.f
  by_cases h : s.data.toList.length = 10
  · obtain ⟨⟨l⟩⟩ := s
    match l, h with
    | [a, b, c, d, p, e, f, q, g, h'], _ =>
      have hs : (⟨#[a, b, c, d, p, e, f, q, g, h']⟩ : ByteArray).size = 10 := rfl; have b4 : bt (⟨#[a, b, c, d, p, e, f, q, g, h']⟩ : ByteArray) 4 = p.toNat := rfl; have b7 : bt (⟨#[a, b, c, d, p, e, f, q, g, h']⟩ : ByteArray) 7 = q.toNat := rfl; rw [hs, if_pos (show ((10 : Nat) : Int) = 10 from rfl), if_pos (show (4 : Int) < ((10 : Nat) : Int) by omega), b4, if_pos (show (7 : Int) < ((10 : Nat) : Int) by omega), b7]
      have c45 : ∀ x : UInt8, ((x.toNat : Int) = 45) ↔ (x = 45) := fun x => by
        constructor
        · intro e; apply UInt8.toNat_inj.1; have : x.toNat = 45 := by omega
          rw [this]; rfl
        · rintro rfl; rfl
      rw [show (⟨#[a, b, c, d, p, e, f, q, g, h']⟩ : ByteArray).data.toList = [a, b, c, d, p, e, f, q, g, h'] from rfl]
      have stop : fuseeref07_Parse.j0 (k + 1) ⟨#[a, b, c, d, p, e, f, q, g, h']⟩ true = some (0, 0, 0, 3) := by simp only [fuseeref07_Parse.j0, if_true]
      by_cases hp : p = 45
      · rw [if_pos ((c45 p).2 hp)]
        by_cases hq : q = 45
        · have bq : ((q.toNat : Int) != 45) = false := by subst hq; rfl
          rw [bq]; simp only [fuseeref07_Parse.j0, Bool.false_eq_true, if_false]; have x1 : (⟨#[a, b, c, d, p, e, f, q, g, h']⟩ : ByteArray).extract 0 4 = ⟨#[a, b, c, d]⟩ := rfl; have x2 : (⟨#[a, b, c, d, p, e, f, q, g, h']⟩ : ByteArray).extract 5 7 = ⟨#[e, f]⟩ := rfl; have x3 : (⟨#[a, b, c, d, p, e, f, q, g, h']⟩ : ByteArray).extract 8 10 = ⟨#[g, h']⟩ := rfl; rw [hs, x1, x2, x3, rdig4 k a b c d (by omega), rdig2 k e f (by omega), rdig2 k g h' (by omega)]; simp only [Option.bind_some]; rw [if_pos (by omega), if_pos (by omega), if_pos (by omega), if_pos (by omega), if_pos (by omega), may k _ _ _ (by omega)]; simp only [Option.bind_some, dateOf, decide_eq_true_eq]
          by_cases da : dgt a = true ∧ dgt b = true ∧ dgt c = true ∧ dgt d = true
          · rw [if_pos da]
            by_cases de : dgt e = true ∧ dgt f = true
            · rw [if_pos de]
              by_cases dg' : dgt g = true ∧ dgt h' = true
              · rw [if_pos dg']
                by_cases v : vld (1000 * dv a + 100 * dv b + 10 * dv c + dv d) (10 * dv e + dv f) (10 * dv g + dv h')
                · rw [if_pos v, if_pos ⟨hp, hq, ⟨da.1, da.2.1, da.2.2.1, da.2.2.2, de.1, de.2, dg'.1, dg'.2⟩, v⟩]
                · rw [if_neg v, if_neg (fun z => v z.2.2.2)]
              · rw [if_neg dg', if_neg (fun v => by have := v.2.2.2.2.1; omega), if_neg (fun z => dg' ⟨z.2.2.1.2.2.2.2.2.2.1, z.2.2.1.2.2.2.2.2.2.2⟩)]
            · rw [if_neg de, if_neg (fun v => by have := v.2.2.1; omega), if_neg (fun z => de ⟨z.2.2.1.2.2.2.2.1, z.2.2.1.2.2.2.2.2.1⟩)]
          · rw [if_neg da, if_neg (fun v => by have := v.1; omega), if_neg (fun z => da ⟨z.2.2.1.1, z.2.2.1.2.1, z.2.2.1.2.2.1, z.2.2.1.2.2.2.1⟩)]
        · have bq : ((q.toNat : Int) != 45) = true := by
            rw [bne_iff_ne]; exact fun e => hq ((c45 q).1 e)
          rw [bq, stop]; simp only [dateOf]; rw [if_neg (fun z => hq z.2.1)]
      · rw [if_neg (fun e => hp ((c45 p).1 e)), stop]; simp only [dateOf]; rw [if_neg (fun z => hp z.1)]
  · have hs : ¬ ((s.size : Int) = 10) := by
      intro e; apply h
      have : s.data.toList.length = s.size := Array.length_toList
      omega
    rw [if_neg hs, dateOf_len h]; simp only [fuseeref07_Parse.j0, if_true]
end Go.Proofs.YtfjifhkgifefeaaGreatDoor.CivP
end

section
namespace Go.Proofs.YtfjifhkgifefeaaGreatDoor.PA
open Giv Go.RowKit YtfjifhkgifefeaaGreatDoorW.PrintWords YtfjifhkgifefeaaGreatDoorW.PrintLast YtfjifhkgifefeaaGreatDoorW.PrintMore
attribute [local go_sem] max2_int min2_int max_two min_two max_three min_three max_four min_four
set_option linter.unusedVariables false
set_option linter.unusedSimpArgs false
def fuseeref08_Stamp.j0 : Nat → Int → Int → Int → Bool → Option (ByteArray × Int)
 | 0, _, _, _, _ => none
 | k + 1, x0, x1, x2, x24 => if x24 = true then (some ((⟨#[]⟩ : ByteArray), 1)) else ((fuseeref07_Of.f k x0).bind fun bt329 => (if bt329.2.2.2 = 0 then ((fuseeref08_Of.f x1).bind fun bt334 => ((fuseeref07_Text.f k bt329.1 bt329.2.1 bt329.2.2.1).bind fun t338 => (if t338.size + 1 ≤ 9223372036854775807 then ((fuseeref07_Two.f k bt334.1 2).bind fun t339 => (if (t338 ++ (⟨#[84]⟩ : ByteArray)).size + t339.size ≤ 9223372036854775807 then (if ((t338 ++ (⟨#[84]⟩ : ByteArray)) ++ t339).size + 1 ≤ 9223372036854775807 then ((fuseeref07_Two.f k bt334.2.1 2).bind fun t340 => (if (((t338 ++ (⟨#[84]⟩ : ByteArray)) ++ t339) ++ (⟨#[58]⟩ : ByteArray)).size + t340.size ≤ 9223372036854775807 then (if ((((t338 ++ (⟨#[84]⟩ : ByteArray)) ++ t339) ++ (⟨#[58]⟩ : ByteArray)) ++ t340).size + 1 ≤ 9223372036854775807 then ((fuseeref07_Two.f k bt334.2.2 2).bind fun t341 => (if (((((t338 ++ (⟨#[84]⟩ : ByteArray)) ++ t339) ++ (⟨#[58]⟩ : ByteArray)) ++ t340) ++ (⟨#[58]⟩ : ByteArray)).size + t341.size ≤ 9223372036854775807 then (if ((((((t338 ++ (⟨#[84]⟩ : ByteArray)) ++ t339) ++ (⟨#[58]⟩ : ByteArray)) ++ t340) ++ (⟨#[58]⟩ : ByteArray)) ++ t341).size + 1 ≤ 9223372036854775807 then ((fuseeref07_Two.f k x2 9).bind fun t342 => (if (((((((t338 ++ (⟨#[84]⟩ : ByteArray)) ++ t339) ++ (⟨#[58]⟩ : ByteArray)) ++ t340) ++ (⟨#[58]⟩ : ByteArray)) ++ t341) ++ (⟨#[46]⟩ : ByteArray)).size + t342.size ≤ 9223372036854775807 then (some ((((((((t338 ++ (⟨#[84]⟩ : ByteArray)) ++ t339) ++ (⟨#[58]⟩ : ByteArray)) ++ t340) ++ (⟨#[58]⟩ : ByteArray)) ++ t341) ++ (⟨#[46]⟩ : ByteArray)) ++ t342, 0)) else (none))) else (none)) else (none))) else (none)) else (none))) else (none)) else (none))) else (none)))) else (some ((⟨#[]⟩ : ByteArray), bt329.2.2.2))))
def fuseeref08_Stamp.f (k : Nat) (a0 : Int) (a1 : Int) (a2 : Int) : Option (ByteArray × Int) := if a1 < 0 then (fuseeref08_Stamp.j0 k a0 a1 a2 true) else (if a1 > 86400 then (fuseeref08_Stamp.j0 k a0 a1 a2 true) else (if a2 < 0 then (fuseeref08_Stamp.j0 k a0 a1 a2 true) else (fuseeref08_Stamp.j0 k a0 a1 a2 (decide (a2 > 999999999)))))
def fuseeref08_Stamp.T7 : Bool × List (List Nat × List Nat) := (true, [([], []), ([0], [0]), ([1], [1]), ([], []), ([3], [3]), ([4, 1], [4]), ([2, 5], [2, 5]), ([6], [6]), ([], []), ([8], [8]), ([9, 5], [9]), ([7, 10], [7, 10]), ([11], [11]), ([], []), ([13], [13]), ([14, 10], [14]), ([12, 15], [12, 15]), ([16], [16]), ([], []), ([18, 15], [18]), ([17, 19], [17, 19]), ([20, 19, 0, 1, 2, 3, 4, 5, 6, 7, 8, 9, 10, 11, 12, 13, 14, 15, 16, 17, 18, 19, 20], [20]), ([21, 0, 1, 2, 3, 4, 5, 6, 7, 8, 9, 10, 11, 12, 13, 14, 15, 16, 17, 18, 19, 20, 21], [])])
def fuseeref08_Stamp.B7 : List Nat := [0, 1, 3, 0, 8, 27, 63, 127, 0, 256, 827, 2047, 4095, 0, 8192, 26427, 65535, 131071, 0, 321339, 1048575, 2097151, 4194303]
theorem fuseeref08_Stamp.tab7 : rtab .any (opsOf Tryz.f40 7) = fuseeref08_Stamp.T7 := by kernel_rfl
theorem fuseeref08_Stamp.bits7 : waitsOk fuseeref08_Stamp.T7.2 fuseeref08_Stamp.B7 = true := by kernel_rfl
theorem fuseeref08_Stamp.calls (k : Nat) (a0 : Int) (a1 : Int) (a2 : Int) (r1 : ByteArray) (r2 : Int) (w : World) (h : fuseeref08_Stamp.f k a0 a1 a2 = some (r1, r2)) :
  Calls Tryz.prog 40 #[.int .i64 a0, .int .i64 a1, .int .i64 a2] w fun e w' => e = .returned (.tuple #[.string r1, .int .i64 r2]) ∧ Below w.heap.size w w' := by
 have hu23 := Tryz.underlying23; have hu49 := Tryz.underlying49; have HB := Aside0.mk (Below.refl w.heap.size w); have H := h; clear h
 unfold fuseeref08_Stamp.f at H
 have HC4 := Aside0.mk H; clear H
 go_enter Tryz.func40, Tryz.ntmps40
 go_upto_region 1 with (fail)
 go_cut [24] (fun v24 wc => ∃ (kq : Nat) (x24_3 : Bool), v24 = .bool x24_3 ∧ Aside0 (fuseeref08_Stamp.j0 kq a0 a1 a2 x24_3 = some (r1, r2)) ∧ Aside0 (kq ≤ k) ∧ Aside0 (Below w.heap.size w wc))
 case first =>
  have H := HC4.out; clear HC4
  by_cases c5 : a1 < 0
  ·rw [if_pos c5] at H; have c5b0 : decide (a1 < 0) = true := decide_eq_true c5; clear c5
   (first | rw [c5b0] | (simp only [i64_w, i32_w]; rw [c5b0]) | skip)
   have H' := Aside0.mk H; clear H
   go_wp2
   go_meet
   case rel => exact ⟨_, (true), rs_, H', ⟨by first | omega | exact Nat.le_refl _⟩, ⟨bl_⟩⟩
  ·rw [if_neg c5] at H; have c5b0 : decide (a1 < 0) = false := decide_eq_false c5; clear c5
   (first | rw [c5b0] | (simp only [i64_w, i32_w]; rw [c5b0]) | skip)
   by_cases c6 : a1 > 86400
   ·rw [if_pos c6] at H; have c6b0 : decide (86400 < a1) = true := decide_eq_true c6; clear c6; have H' := Aside0.mk H; clear H
    go_wp2
    go_meet
    case rel => exact ⟨_, (true), rs_, H', ⟨by first | omega | exact Nat.le_refl _⟩, ⟨bl_⟩⟩
   ·rw [if_neg c6] at H; have c6b0 : decide (86400 < a1) = false := decide_eq_false c6; clear c6
    by_cases c7 : a2 < 0
    ·rw [if_pos c7] at H; have c7b0 : decide (a2 < 0) = true := decide_eq_true c7; clear c7; have H' := Aside0.mk H; clear H
     go_wp2
     go_meet
     case rel => exact ⟨_, (true), rs_, H', ⟨by first | omega | exact Nat.le_refl _⟩, ⟨bl_⟩⟩
    ·rw [if_neg c7] at H; have c7b0 : decide (a2 < 0) = false := decide_eq_false c7; clear c7; have H' := Aside0.mk H; clear H
     go_wp2
     go_meet
     case rel => exact ⟨_, (decide (a2 > 999999999)), rs_, H', ⟨by first | omega | exact Nat.le_refl _⟩, ⟨bl_⟩⟩
 case rest =>
  clear HC4; (try clear p2); (try clear c4); (try clear c5); (try clear c5b0); (try clear c6); (try clear c6b0); (try clear c7); (try clear c7b0); obtain ⟨kq, x24_3, rfl, HA, HJ3, HB⟩ := hcut
  cases kq with
  | zero => exact absurd HA.out (by simp [fuseeref08_Stamp.j0])
  | succ kj3 =>
   have H := HA.out; clear HA; simp only [fuseeref08_Stamp.j0] at H
   by_cases c8 : x24_3 = true
   ·subst c8
    have H1 : (some ((⟨#[]⟩ : ByteArray), 1)) = some (r1, r2) := by rw [if_pos rfl] at H; exact H
    clear H; have H := H1; clear H1; simp only [Option.some.injEq, Prod.mk.injEq] at H; obtain ⟨rfl, rfl⟩ := H
    go_wp2
    go_ret2
    exact en_
   ·replace c8 := Bool.eq_false_iff.mpr c8; subst c8
    have H1 : ((fuseeref07_Of.f kj3 a0).bind fun bt329 => (if bt329.2.2.2 = 0 then ((fuseeref08_Of.f a1).bind fun bt334 => ((fuseeref07_Text.f kj3 bt329.1 bt329.2.1 bt329.2.2.1).bind fun t338 => (if t338.size + 1 ≤ 9223372036854775807 then ((fuseeref07_Two.f kj3 bt334.1 2).bind fun t339 => (if (t338 ++ (⟨#[84]⟩ : ByteArray)).size + t339.size ≤ 9223372036854775807 then (if ((t338 ++ (⟨#[84]⟩ : ByteArray)) ++ t339).size + 1 ≤ 9223372036854775807 then ((fuseeref07_Two.f kj3 bt334.2.1 2).bind fun t340 => (if (((t338 ++ (⟨#[84]⟩ : ByteArray)) ++ t339) ++ (⟨#[58]⟩ : ByteArray)).size + t340.size ≤ 9223372036854775807 then (if ((((t338 ++ (⟨#[84]⟩ : ByteArray)) ++ t339) ++ (⟨#[58]⟩ : ByteArray)) ++ t340).size + 1 ≤ 9223372036854775807 then ((fuseeref07_Two.f kj3 bt334.2.2 2).bind fun t341 => (if (((((t338 ++ (⟨#[84]⟩ : ByteArray)) ++ t339) ++ (⟨#[58]⟩ : ByteArray)) ++ t340) ++ (⟨#[58]⟩ : ByteArray)).size + t341.size ≤ 9223372036854775807 then (if ((((((t338 ++ (⟨#[84]⟩ : ByteArray)) ++ t339) ++ (⟨#[58]⟩ : ByteArray)) ++ t340) ++ (⟨#[58]⟩ : ByteArray)) ++ t341).size + 1 ≤ 9223372036854775807 then ((fuseeref07_Two.f kj3 a2 9).bind fun t342 => (if (((((((t338 ++ (⟨#[84]⟩ : ByteArray)) ++ t339) ++ (⟨#[58]⟩ : ByteArray)) ++ t340) ++ (⟨#[58]⟩ : ByteArray)) ++ t341) ++ (⟨#[46]⟩ : ByteArray)).size + t342.size ≤ 9223372036854775807 then (some ((((((((t338 ++ (⟨#[84]⟩ : ByteArray)) ++ t339) ++ (⟨#[58]⟩ : ByteArray)) ++ t340) ++ (⟨#[58]⟩ : ByteArray)) ++ t341) ++ (⟨#[46]⟩ : ByteArray)) ++ t342, 0)) else (none))) else (none)) else (none))) else (none)) else (none))) else (none)) else (none))) else (none)))) else (some ((⟨#[]⟩ : ByteArray), bt329.2.2.2)))) = some (r1, r2) := by rw [if_neg (show ¬ (false = true) by decide)] at H; exact H
    clear H; have H := H1; clear H1; replace H := Option.bind_eq_some_iff.mp H; obtain ⟨⟨t329, t330, t331, t332⟩, A90, H⟩ := H; (try dsimp only at H); have A9 := Aside0.mk A90; clear A90
    by_cases c10 : t332 = 0
    ·rw [if_pos c10] at H; have c10b0 : (t332 == 0) = true := beq_iff_eq.mpr c10; have c10b1 : (t332 != 0) = false := bne_eq_false_iff_eq.mpr c10; clear c10; replace H := Option.bind_eq_some_iff.mp H; obtain ⟨⟨t334, t335, t336⟩, A110, H⟩ := H; (try dsimp only at H); have A11 := Aside0.mk A110; clear A110; replace H := Option.bind_eq_some_iff.mp H; obtain ⟨t338, A120, H⟩ := H; (try dsimp only at H); have A12 := Aside0.mk A120; clear A120
     by_cases c13 : t338.size + 1 ≤ 9223372036854775807
     ·rw [if_pos c13] at H; have c13b0 := eq_true c13; have c13b1 : decide (t338.size + 1 ≤ 9223372036854775807) = true := decide_eq_true c13
      try have c13b2 : (9223372036854775807 < t338.size + 1) = False := eq_false (Nat.not_lt.2 c13)
      replace H := Option.bind_eq_some_iff.mp H; obtain ⟨t339, A140, H⟩ := H; (try dsimp only at H); have A14 := Aside0.mk A140; clear A140
      by_cases c15 : (t338 ++ (⟨#[84]⟩ : ByteArray)).size + t339.size ≤ 9223372036854775807
      ·rw [if_pos c15] at H; have c15b0 := eq_true c15; have c15b1 : decide ((t338 ++ (⟨#[84]⟩ : ByteArray)).size + t339.size ≤ 9223372036854775807) = true := decide_eq_true c15
       try have c15b2 : (9223372036854775807 < (t338 ++ (⟨#[84]⟩ : ByteArray)).size + t339.size) = False := eq_false (Nat.not_lt.2 c15)
       try have c15b3 : (9223372036854775807 < t338.size + 1 + t339.size) = False := eq_false (by have q_ := c15; simp only [ByteArray.size_append] at q_; exact Nat.not_lt.2 q_)
       by_cases c16 : ((t338 ++ (⟨#[84]⟩ : ByteArray)) ++ t339).size + 1 ≤ 9223372036854775807
       ·rw [if_pos c16] at H; have c16b0 := eq_true c16; have c16b1 : decide (((t338 ++ (⟨#[84]⟩ : ByteArray)) ++ t339).size + 1 ≤ 9223372036854775807) = true := decide_eq_true c16
        try have c16b2 : (9223372036854775807 < ((t338 ++ (⟨#[84]⟩ : ByteArray)) ++ t339).size + 1) = False := eq_false (Nat.not_lt.2 c16)
        try have c16b3 : (9223372036854775807 < t338.size + 1 + t339.size + 1) = False := eq_false (by have q_ := c16; simp only [ByteArray.size_append] at q_; exact Nat.not_lt.2 q_)
        replace H := Option.bind_eq_some_iff.mp H; obtain ⟨t340, A170, H⟩ := H; (try dsimp only at H); have A17 := Aside0.mk A170; clear A170
        by_cases c18 : (((t338 ++ (⟨#[84]⟩ : ByteArray)) ++ t339) ++ (⟨#[58]⟩ : ByteArray)).size + t340.size ≤ 9223372036854775807
        ·rw [if_pos c18] at H; have c18b0 := eq_true c18; have c18b1 : decide ((((t338 ++ (⟨#[84]⟩ : ByteArray)) ++ t339) ++ (⟨#[58]⟩ : ByteArray)).size + t340.size ≤ 9223372036854775807) = true := decide_eq_true c18
         try have c18b2 : (9223372036854775807 < (((t338 ++ (⟨#[84]⟩ : ByteArray)) ++ t339) ++ (⟨#[58]⟩ : ByteArray)).size + t340.size) = False := eq_false (Nat.not_lt.2 c18)
         try have c18b3 : (9223372036854775807 < t338.size + 1 + t339.size + 1 + t340.size) = False := eq_false (by have q_ := c18; simp only [ByteArray.size_append] at q_; exact Nat.not_lt.2 q_)
         by_cases c19 : ((((t338 ++ (⟨#[84]⟩ : ByteArray)) ++ t339) ++ (⟨#[58]⟩ : ByteArray)) ++ t340).size + 1 ≤ 9223372036854775807
         ·rw [if_pos c19] at H; have c19b0 := eq_true c19; have c19b1 : decide (((((t338 ++ (⟨#[84]⟩ : ByteArray)) ++ t339) ++ (⟨#[58]⟩ : ByteArray)) ++ t340).size + 1 ≤ 9223372036854775807) = true := decide_eq_true c19
          try have c19b2 : (9223372036854775807 < ((((t338 ++ (⟨#[84]⟩ : ByteArray)) ++ t339) ++ (⟨#[58]⟩ : ByteArray)) ++ t340).size + 1) = False := eq_false (Nat.not_lt.2 c19)
          try have c19b3 : (9223372036854775807 < t338.size + 1 + t339.size + 1 + t340.size + 1) = False := eq_false (by have q_ := c19; simp only [ByteArray.size_append] at q_; exact Nat.not_lt.2 q_)
          replace H := Option.bind_eq_some_iff.mp H; obtain ⟨t341, A200, H⟩ := H; (try dsimp only at H); have A20 := Aside0.mk A200; clear A200
          by_cases c21 : (((((t338 ++ (⟨#[84]⟩ : ByteArray)) ++ t339) ++ (⟨#[58]⟩ : ByteArray)) ++ t340) ++ (⟨#[58]⟩ : ByteArray)).size + t341.size ≤ 9223372036854775807
          ·rw [if_pos c21] at H; have c21b0 := eq_true c21; have c21b1 : decide ((((((t338 ++ (⟨#[84]⟩ : ByteArray)) ++ t339) ++ (⟨#[58]⟩ : ByteArray)) ++ t340) ++ (⟨#[58]⟩ : ByteArray)).size + t341.size ≤ 9223372036854775807) = true := decide_eq_true c21
           try have c21b2 : (9223372036854775807 < (((((t338 ++ (⟨#[84]⟩ : ByteArray)) ++ t339) ++ (⟨#[58]⟩ : ByteArray)) ++ t340) ++ (⟨#[58]⟩ : ByteArray)).size + t341.size) = False := eq_false (Nat.not_lt.2 c21)
           try have c21b3 : (9223372036854775807 < t338.size + 1 + t339.size + 1 + t340.size + 1 + t341.size) = False := eq_false (by have q_ := c21; simp only [ByteArray.size_append] at q_; exact Nat.not_lt.2 q_)
           by_cases c22 : ((((((t338 ++ (⟨#[84]⟩ : ByteArray)) ++ t339) ++ (⟨#[58]⟩ : ByteArray)) ++ t340) ++ (⟨#[58]⟩ : ByteArray)) ++ t341).size + 1 ≤ 9223372036854775807
           ·rw [if_pos c22] at H; have c22b0 := eq_true c22; have c22b1 : decide (((((((t338 ++ (⟨#[84]⟩ : ByteArray)) ++ t339) ++ (⟨#[58]⟩ : ByteArray)) ++ t340) ++ (⟨#[58]⟩ : ByteArray)) ++ t341).size + 1 ≤ 9223372036854775807) = true := decide_eq_true c22
            try have c22b2 : (9223372036854775807 < ((((((t338 ++ (⟨#[84]⟩ : ByteArray)) ++ t339) ++ (⟨#[58]⟩ : ByteArray)) ++ t340) ++ (⟨#[58]⟩ : ByteArray)) ++ t341).size + 1) = False := eq_false (Nat.not_lt.2 c22)
            try have c22b3 : (9223372036854775807 < t338.size + 1 + t339.size + 1 + t340.size + 1 + t341.size + 1) = False := eq_false (by have q_ := c22; simp only [ByteArray.size_append] at q_; exact Nat.not_lt.2 q_)
            replace H := Option.bind_eq_some_iff.mp H; obtain ⟨t342, A230, H⟩ := H; (try dsimp only at H); have A23 := Aside0.mk A230; clear A230
            by_cases c24 : (((((((t338 ++ (⟨#[84]⟩ : ByteArray)) ++ t339) ++ (⟨#[58]⟩ : ByteArray)) ++ t340) ++ (⟨#[58]⟩ : ByteArray)) ++ t341) ++ (⟨#[46]⟩ : ByteArray)).size + t342.size ≤ 9223372036854775807
            ·rw [if_pos c24] at H; have c24b0 := eq_true c24; have c24b1 : decide ((((((((t338 ++ (⟨#[84]⟩ : ByteArray)) ++ t339) ++ (⟨#[58]⟩ : ByteArray)) ++ t340) ++ (⟨#[58]⟩ : ByteArray)) ++ t341) ++ (⟨#[46]⟩ : ByteArray)).size + t342.size ≤ 9223372036854775807) = true := decide_eq_true c24
             try have c24b2 : (9223372036854775807 < (((((((t338 ++ (⟨#[84]⟩ : ByteArray)) ++ t339) ++ (⟨#[58]⟩ : ByteArray)) ++ t340) ++ (⟨#[58]⟩ : ByteArray)) ++ t341) ++ (⟨#[46]⟩ : ByteArray)).size + t342.size) = False := eq_false (Nat.not_lt.2 c24)
             try have c24b3 : (9223372036854775807 < t338.size + 1 + t339.size + 1 + t340.size + 1 + t341.size + 1 + t342.size) = False := eq_false (by have q_ := c24; simp only [ByteArray.size_append] at q_; exact Nat.not_lt.2 q_)
             simp only [Option.some.injEq, Prod.mk.injEq] at H; obtain ⟨rfl, rfl⟩ := H
             try go_wp2_with (first | ((with_reducible refine gate_callee (f := 25) rfl ?_); refine gd_ (some 27) Tryz.func25 (fuseeref07_Of.calls kj3 a0 t329 t330 t331 t332 _ A9.out) ?_; intro w25 hb; replace HB := bs_ hb; (try clear hb)) | ((with_reducible refine gate_dst (N := 8) rfl ?_); refine be_ (N := 8) (cs := #[.int .i64 0, .int .i64 0, .int .i64 0]) (t := 23) ?_; intro gb333 hg w26 hbox hb; have BK333 := Aside0.mk hbox; have GW333 := Aside0.mk (sz_ hg : w.heap.size ≤ gb333); have GE333 := GW333; replace HB := bs_ hb; clear hb hbox hg; have hcz27_0 : w26.cell? ⟨gb333, 0, none⟩ = some (.int .i64 0) := (blk_cell BK333.out 0).trans rfl; have hcz27_1 : w26.cell? ⟨gb333, 1, none⟩ = some (.int .i64 0) := (blk_cell BK333.out 1).trans rfl; have hcz27_2 : w26.cell? ⟨gb333, 2, none⟩ = some (.int .i64 0) := (blk_cell BK333.out 2).trans rfl; have hfz27_0 := blk_frozen BK333.out 0; have hfz27_1 := blk_frozen BK333.out 1; have hfz27_2 := blk_frozen BK333.out 2) | ((with_reducible refine gate_callee (f := 38) rfl ?_); refine gd_ (some 34) Tryz.func38 (fuseeref08_Of.calls a1 t334 t335 t336 _ A11.out) ?_; intro w28 hb; replace BK333 := Aside0.mk (blk_below (g := gb333) (o := .cells #[.int .i64 t329, .int .i64 t330, .int .i64 t331] 23 (0, 0)) (by (with_reducible repeat first | apply blk_drewN | apply blk_drew | apply blk_alloc); refine blk_put (cs := #[.int .i64 t329, .int .i64 t330, .int .i64 0]) ?_ 2 _ rfl; (with_reducible repeat first | apply blk_drewN | apply blk_drew | apply blk_alloc); refine blk_put (cs := #[.int .i64 t329, .int .i64 0, .int .i64 0]) ?_ 1 _ rfl; (with_reducible repeat first | apply blk_drewN | apply blk_drew | apply blk_alloc); refine blk_put (cs := #[.int .i64 0, .int .i64 0, .int .i64 0]) ?_ 0 _ rfl; (with_reducible repeat first | apply blk_drewN | apply blk_drew | apply blk_alloc); exact BK333.out) hb); replace HB := bs_ hb; (try clear hb)) | ((with_reducible refine gate_dst (N := 10) rfl ?_); refine be_ (N := 10) (cs := #[.int .i64 0, .int .i64 0, .int .i64 0]) (t := 49) ?_; intro gb337 hg w29 hbox hb; have BK337 := Aside0.mk hbox; have GW337 := Aside0.mk (sz_ hg : w.heap.size ≤ gb337); have GE337 := GW337; have NB333_337 := Aside0.mk ((by rw [hg]; exact Nat.ne_of_lt (blk_lt (g := gb333) (o := .cells #[.int .i64 t329, .int .i64 t330, .int .i64 t331] 23 (0, 0)) bk_) : gb333 ≠ gb337)); have NB337_333 := Aside0.mk ((by rw [hg]; exact Nat.ne_of_gt (blk_lt (g := gb333) (o := .cells #[.int .i64 t329, .int .i64 t330, .int .i64 t331] 23 (0, 0)) bk_) : gb337 ≠ gb333)); replace BK333 := bb_ BK333.out hb; replace HB := bs_ hb; clear hb hbox hg; have hnb30 := NB337_333.out; have hnc30 := NB333_337.out; have hcz31_0 : w29.cell? ⟨gb337, 0, none⟩ = some (.int .i64 0) := (blk_cell BK337.out 0).trans rfl; have hcz31_1 : w29.cell? ⟨gb337, 1, none⟩ = some (.int .i64 0) := (blk_cell BK337.out 1).trans rfl; have hcz31_2 : w29.cell? ⟨gb337, 2, none⟩ = some (.int .i64 0) := (blk_cell BK337.out 2).trans rfl; have hfz31_0 := blk_frozen BK337.out 0; have hfz31_1 := blk_frozen BK337.out 1; have hfz31_2 := blk_frozen BK337.out 2))
             have n0_ : Aside0 ((((w29.setCell ⟨gb337, 0, none⟩ (.int .i64 t334)).setCell ⟨gb337, 1, none⟩ (.int .i64 t335)).setCell ⟨gb337, 2, none⟩ (.int .i64 t336)).heap[gb333]? = some (.cells #[.int .i64 t329, .int .i64 t330, .int .i64 t331] 23 (0, 0))) := ⟨by (with_reducible repeat first | apply blk_drewN | apply blk_drew | apply blk_alloc); refine blk_far ?_ NB333_337.out _; (with_reducible repeat first | apply blk_drewN | apply blk_drew | apply blk_alloc); refine blk_far ?_ NB333_337.out _; (with_reducible repeat first | apply blk_drewN | apply blk_drew | apply blk_alloc); refine blk_far ?_ NB333_337.out _; (with_reducible repeat first | apply blk_drewN | apply blk_drew | apply blk_alloc); exact BK333.out⟩
             have n1_ : Aside0 ((((w29.setCell ⟨gb337, 0, none⟩ (.int .i64 t334)).setCell ⟨gb337, 1, none⟩ (.int .i64 t335)).setCell ⟨gb337, 2, none⟩ (.int .i64 t336)).heap[gb337]? = some (.cells #[.int .i64 t334, .int .i64 t335, .int .i64 t336] 49 (0, 0))) := ⟨by (with_reducible repeat first | apply blk_drewN | apply blk_drew | apply blk_alloc); refine blk_put (cs := #[.int .i64 t334, .int .i64 t335, .int .i64 0]) ?_ 2 _ rfl; (with_reducible repeat first | apply blk_drewN | apply blk_drew | apply blk_alloc); refine blk_put (cs := #[.int .i64 t334, .int .i64 0, .int .i64 0]) ?_ 1 _ rfl; (with_reducible repeat first | apply blk_drewN | apply blk_drew | apply blk_alloc); refine blk_put (cs := #[.int .i64 0, .int .i64 0, .int .i64 0]) ?_ 0 _ rfl; (with_reducible repeat first | apply blk_drewN | apply blk_drew | apply blk_alloc); exact BK337.out⟩
             have n2_ : Aside0 (Below w.heap.size w (((w29.setCell ⟨gb337, 0, none⟩ (.int .i64 t334)).setCell ⟨gb337, 1, none⟩ (.int .i64 t335)).setCell ⟨gb337, 2, none⟩ (.int .i64 t336))) := ⟨bl_⟩
             (try clear BK333)
             (try clear BK337)
             (try clear HB)
             generalize (((w29.setCell ⟨gb337, 0, none⟩ (.int .i64 t334)).setCell ⟨gb337, 1, none⟩ (.int .i64 t335)).setCell ⟨gb337, 2, none⟩ (.int .i64 t336)) = w32 at n0_ n1_ n2_ ⊢
             have BK333 := n0_; have BK337 := n1_; have HB := n2_; clear n0_ n1_ n2_; have n0_ := Aside0.mk (blk_drew BK333.out); have n1_ := Aside0.mk (blk_drew BK337.out); have n2_ := Aside0.mk (below_drew1 HB.out); clear BK333; clear BK337; clear HB; have BK333 := n0_; have BK337 := n1_; have HB := n2_; clear n0_ n1_ n2_
             refine start_ (n := 23) (S := fun w' => w'.cell? ⟨gb333, 0, none⟩ = some (.int .i64 t329) ∧ w'.cell? ⟨gb333, 1, none⟩ = some (.int .i64 t330) ∧ w'.cell? ⟨gb333, 2, none⟩ = some (.int .i64 t331) ∧ w'.cell? ⟨gb337, 0, none⟩ = some (.int .i64 t334) ∧ w'.cell? ⟨gb337, 1, none⟩ = some (.int .i64 t335) ∧ w'.cell? ⟨gb337, 2, none⟩ = some (.int .i64 t336)) (ds := []) (bq 23 0) (by kernel_rfl) rfl (by kernel_rfl) ⟨(blk_cell BK333.out 0).trans rfl, (blk_cell BK333.out 1).trans rfl, (blk_cell BK333.out 2).trans rfl, (blk_cell BK337.out 0).trans rfl, (blk_cell BK337.out 1).trans rfl, (blk_cell BK337.out 2).trans rfl⟩ (fun hHeld => ?_); refine with_tabW fuseeref08_Stamp.tab7 fuseeref08_Stamp.bits7 (fun HT_ HW_ => ?_)
             generalize w32.drew = w33 at BK333 BK337 HB hHeld ⊢
             refine pa 3 (bs 23 8) (some 38) ?_; refine pa 8 (bs 23 264) (some 43) ?_; refine pa 13 (bs 23 8456) (some 48) ?_; refine pa 18 (bs 23 270600) (some 53) ?_
             refine tu (N := some 35) (v := ?_) (a' := ?_) 0 (bs 23 270601) hHeld rfl rfl (take_ofW HT_.out HW_.out (by kernel_rfl)) (fun _ _ _ h => h) (by rfl) ?_ ?_ ?_; rotate_left 2; (rintro w' ⟨s0, s1, s2, s3, s4, s5⟩; go_simp; with_reducible rfl); (simp only [Act.put, List.setIfInBounds_toArray, List.set_cons_zero, List.set_cons_succ, i64_w, i32_w]; rfl)
             refine tu (N := some 39) (v := ?_) (a' := ?_) 4 (bs 23 270617) hHeld rfl rfl (take_ofW HT_.out HW_.out (by kernel_rfl)) (fun _ _ _ h => h) (by rfl) ?_ ?_ ?_; rotate_left 2; (rintro w' ⟨s0, s1, s2, s3, s4, s5⟩; go_simp; with_reducible rfl); (simp only [Act.put, List.setIfInBounds_toArray, List.set_cons_zero, List.set_cons_succ, i64_w, i32_w]; rfl)
             refine tu (N := some 44) (v := ?_) (a' := ?_) 9 (bs 23 271129) hHeld rfl rfl (take_ofW HT_.out HW_.out (by kernel_rfl)) (fun _ _ _ h => h) (by rfl) ?_ ?_ ?_; rotate_left 2; (rintro w' ⟨s0, s1, s2, s3, s4, s5⟩; go_simp; with_reducible rfl); (simp only [Act.put, List.setIfInBounds_toArray, List.set_cons_zero, List.set_cons_succ, i64_w, i32_w]; rfl)
             refine tu (N := some 49) (v := ?_) (a' := ?_) 14 (bs 23 287513) hHeld rfl rfl (take_ofW HT_.out HW_.out (by kernel_rfl)) (fun _ _ _ h => h) (by rfl) ?_ ?_ ?_; rotate_left 2; (rintro w' ⟨s0, s1, s2, s3, s4, s5⟩; go_simp; with_reducible rfl); (simp only [Act.put, List.setIfInBounds_toArray, List.set_cons_zero, List.set_cons_succ, i64_w, i32_w]; rfl)
             refine one_ (i := 1) (N := some 36) (bs 23 287515) rfl rfl (one_of HT_.out (by kernel_rfl)) (by decide) (fun K hK => ?_)
             refine goes_ Tryz.func29 (by kernel_rfl) rfl #[.agg #[.int .i64 t329, .int .i64 t330, .int .i64 t331]] (by rfl) rfl rfl ev_ ?_
             with_reducible refine (fuseeref07_Text.calls kj3 t329 t330 t331 t338 _ A12.out).mono ?_
             rintro e w34 ⟨rfl, hb⟩
             refine ⟨_, rfl, ?_⟩
             have n0_ := Aside0.mk (blk_below (g := gb333) (o := .cells #[.int .i64 t329, .int .i64 t330, .int .i64 t331] 23 (0, 0)) bk_ hb); have n1_ := Aside0.mk (blk_below (g := gb337) (o := .cells #[.int .i64 t334, .int .i64 t335, .int .i64 t336] 49 (0, 0)) bk_ hb); have n2_ := bs_ hb; clear BK333; clear BK337; clear HB; have BK333 := n0_; have BK337 := n1_; have HB := n2_; clear n0_ n1_ n2_
             (try clear hb)
             (try clear hb2)
             (try clear hk)
             (try clear hi)
             refine hK.out _ _ ⟨(blk_cell BK333.out 0).trans rfl, (blk_cell BK333.out 1).trans rfl, (blk_cell BK333.out 2).trans rfl, (blk_cell BK337.out 0).trans rfl, (blk_cell BK337.out 1).trans rfl, (blk_cell BK337.out 2).trans rfl⟩ (fun hHeld => ?_)
             clear hK K
             refine norm_ (a' := ?_) ?_ ?_
             rotate_left
             ·show Act.put _ (some 36) _ = _
              simp only [Act.put, List.setIfInBounds_toArray, List.set_cons_zero, List.set_cons_succ, i64_w, i32_w]
              rfl
             refine pa 2 (bs 23 287519) (some 37) ?_
             refine one_ (i := 5) (N := some 40) (bs 23 287551) rfl rfl (one_of HT_.out (by kernel_rfl)) (by decide) (fun K hK => ?_)
             refine goes_ Tryz.func99 (by kernel_rfl) rfl #[.int .i64 t334, .int .i64 2] (by rfl) rfl rfl ev_ ?_
             with_reducible refine (fuseeref07_Two.calls kj3 t334 2 t339 _ A14.out).mono ?_
             rintro e w' ⟨rfl, ⟨nd, rfl⟩⟩
             refine ⟨_, rfl, ?_⟩
             refine hK.out _ _ ⟨(blk_cell BK333.out 0).trans rfl, (blk_cell BK333.out 1).trans rfl, (blk_cell BK333.out 2).trans rfl, (blk_cell BK337.out 0).trans rfl, (blk_cell BK337.out 1).trans rfl, (blk_cell BK337.out 2).trans rfl⟩ (fun hHeld => ?_)
             clear hK K
             refine norm_ (a' := ?_) ?_ ?_
             rotate_left
             ·show Act.put _ (some 40) _ = _
              simp only [Act.put, List.setIfInBounds_toArray, List.set_cons_zero, List.set_cons_succ, i64_w, i32_w]
              rfl
             refine pa 6 (bs 23 287615) (some 41) ?_; refine pa 7 (bs 23 287743) (some 42) ?_
             refine one_ (i := 10) (N := some 45) (bs 23 288767) rfl rfl (one_of HT_.out (by kernel_rfl)) (by decide) (fun K hK => ?_)
             refine goes_ Tryz.func99 (by kernel_rfl) rfl #[.int .i64 t335, .int .i64 2] (by rfl) rfl rfl ev_ ?_
             with_reducible refine (fuseeref07_Two.calls kj3 t335 2 t340 _ A17.out).mono ?_
             rintro e w' ⟨rfl, ⟨nd, rfl⟩⟩
             refine ⟨_, rfl, ?_⟩
             refine hK.out _ _ ⟨(blk_cell BK333.out 0).trans rfl, (blk_cell BK333.out 1).trans rfl, (blk_cell BK333.out 2).trans rfl, (blk_cell BK337.out 0).trans rfl, (blk_cell BK337.out 1).trans rfl, (blk_cell BK337.out 2).trans rfl⟩ (fun hHeld => ?_)
             clear hK K
             refine norm_ (a' := ?_) ?_ ?_
             rotate_left
             ·show Act.put _ (some 45) _ = _
              simp only [Act.put, List.setIfInBounds_toArray, List.set_cons_zero, List.set_cons_succ, i64_w, i32_w]
              rfl
             refine pa 11 (bs 23 290815) (some 46) ?_; refine pa 12 (bs 23 294911) (some 47) ?_
             refine one_ (i := 15) (N := some 50) (bs 23 327679) rfl rfl (one_of HT_.out (by kernel_rfl)) (by decide) (fun K hK => ?_)
             refine goes_ Tryz.func99 (by kernel_rfl) rfl #[.int .i64 t336, .int .i64 2] (by rfl) rfl rfl ev_ ?_
             with_reducible refine (fuseeref07_Two.calls kj3 t336 2 t341 _ A20.out).mono ?_
             rintro e w' ⟨rfl, ⟨nd, rfl⟩⟩
             refine ⟨_, rfl, ?_⟩
             refine hK.out _ _ ⟨(blk_cell BK333.out 0).trans rfl, (blk_cell BK333.out 1).trans rfl, (blk_cell BK333.out 2).trans rfl, (blk_cell BK337.out 0).trans rfl, (blk_cell BK337.out 1).trans rfl, (blk_cell BK337.out 2).trans rfl⟩ (fun hHeld => ?_)
             clear hK K
             refine norm_ (a' := ?_) ?_ ?_
             rotate_left
             ·show Act.put _ (some 50) _ = _
              simp only [Act.put, List.setIfInBounds_toArray, List.set_cons_zero, List.set_cons_succ, i64_w, i32_w]
              rfl
             refine pa 16 (bs 23 393215) (some 51) ?_; refine pa 17 (bq 23 19) (some 52) ?_
             refine one_ (i := 19) (N := some 54) (bq 23 20) rfl rfl (one_of HT_.out (by kernel_rfl)) (by decide) (fun K hK => ?_)
             refine goes_ Tryz.func99 (by kernel_rfl) rfl #[.int .i64 a2, .int .i64 9] (by rfl) rfl rfl ev_ ?_
             with_reducible refine (fuseeref07_Two.calls kj3 a2 9 t342 _ A23.out).mono ?_
             rintro e w' ⟨rfl, ⟨nd, rfl⟩⟩
             refine ⟨_, rfl, ?_⟩
             refine hK.out _ _ ⟨(blk_cell BK333.out 0).trans rfl, (blk_cell BK333.out 1).trans rfl, (blk_cell BK333.out 2).trans rfl, (blk_cell BK337.out 0).trans rfl, (blk_cell BK337.out 1).trans rfl, (blk_cell BK337.out 2).trans rfl⟩ (fun hHeld => ?_)
             clear hK K
             refine norm_ (a' := ?_) ?_ ?_
             rotate_left
             ·show Act.put _ (some 54) _ = _
              simp only [Act.put, List.setIfInBounds_toArray, List.set_cons_zero, List.set_cons_succ, i64_w, i32_w]
              rfl
             refine pa 20 (bq 23 21) (some 55) ?_; refine pa 21 (bq 23 22) (some 6) ?_; refine pa 22 (bq 23 23) (some 7) ?_
             refine done_ (done_of HT_.out (by kernel_rfl)) ?_
             try go_wp2
             go_ret2
             exact en_
            ·rw [if_neg c24] at H; exact absurd H (by simp)
           ·rw [if_neg c22] at H; exact absurd H (by simp)
          ·rw [if_neg c21] at H; exact absurd H (by simp)
         ·rw [if_neg c19] at H; exact absurd H (by simp)
        ·rw [if_neg c18] at H; exact absurd H (by simp)
       ·rw [if_neg c16] at H; exact absurd H (by simp)
      ·rw [if_neg c15] at H; exact absurd H (by simp)
     ·rw [if_neg c13] at H; exact absurd H (by simp)
    ·rw [if_neg c10] at H; have c10b0 : (t332 == 0) = false := beq_eq_false_iff_ne.mpr c10; have c10b1 : (t332 != 0) = true := bne_iff_ne.mpr c10; simp only [Option.some.injEq, Prod.mk.injEq] at H; obtain ⟨rfl, rfl⟩ := H
     go_wp2_with (first | ((with_reducible refine gate_callee (f := 25) rfl ?_); refine gd_ (some 27) Tryz.func25 (fuseeref07_Of.calls kj3 a0 t329 t330 t331 t332 _ A9.out) ?_; intro w35 hb; replace HB := bs_ hb; (try clear hb)) | ((with_reducible refine gate_dst (N := 8) rfl ?_); refine be_ (N := 8) (cs := #[.int .i64 0, .int .i64 0, .int .i64 0]) (t := 23) ?_; intro gb333 hg w36 hbox hb; have BK333 := Aside0.mk hbox; have GW333 := Aside0.mk (sz_ hg : w.heap.size ≤ gb333); have GE333 := GW333; replace HB := bs_ hb; clear hb hbox hg; have hcz37_0 : w36.cell? ⟨gb333, 0, none⟩ = some (.int .i64 0) := (blk_cell BK333.out 0).trans rfl; have hcz37_1 : w36.cell? ⟨gb333, 1, none⟩ = some (.int .i64 0) := (blk_cell BK333.out 1).trans rfl; have hcz37_2 : w36.cell? ⟨gb333, 2, none⟩ = some (.int .i64 0) := (blk_cell BK333.out 2).trans rfl; have hfz37_0 := blk_frozen BK333.out 0; have hfz37_1 := blk_frozen BK333.out 1; have hfz37_2 := blk_frozen BK333.out 2))
     go_ret2
     exact en_
end Go.Proofs.YtfjifhkgifefeaaGreatDoor.PA
end

section
/- What the printed daytime.Stamp and the document's Stamp answer. -/
namespace Go.Proofs.YtfjifhkgifefeaaGreatDoor.CivP
open Go.RowKit Go.Proofs.YtfjifhkgifefeaaGreatDoor.PA Go.Proofs.YtfjifhkgifefeaaGreatDoor.CivM Go.Proofs.YtfjifhkgifefeaaGreatDoor.StrM Go.Proofs.YtfjifhkgifefeaaGreatDoor.Giv Go.Proofs.YtfjifhkgifefeaaGreatDoorW.PrintWords
def stext (y m d n nano : Int) : List UInt8 := dtext y m d ++ 84 :: (digs 2 (tod n).1 ++ 58 :: (digs 2 (tod n).2.1 ++ 58 :: (digs 2 (tod n).2.2 ++ 46 :: digs 9 nano)))
theorem dtext_len {y m d : Int} (v : vld y m d) : (dtext y m d).length = 10 := by rw [dtext_eq v]; rfl
theorem tod_bd (h m s : Int) (v : tvld h m s) : (0 ≤ h ∧ h ≤ 99) ∧ (0 ≤ m ∧ m ≤ 99) ∧ 0 ≤ s ∧ s ≤ 99 := by unfold tvld at v; omega
theorem digs2 (n : Int) (h0 : 0 ≤ n) (h1 : n ≤ 99) : daytime_digits.f n 2 = some ⟨(digs 2 n).toArray⟩ := tdigits n 1 h0 (by show n < 10 ^ 2; omega) (by omega)
theorem digs9 (n : Int) (h0 : 0 ≤ n) (h1 : n ≤ 999999999) : daytime_digits.f n 9 = some ⟨(digs 9 n).toArray⟩ := tdigits n 8 h0 (by show n < 10 ^ 9; omega) (by omega)
theorem dstamp_ok (k : Nat) (y m d sec nano : Int) (hk : 5 ≤ k) (v : vld y m d) (s0 : 0 ≤ sec) (s1 : sec ≤ 86400) (n0 : 0 ≤ nano) (n1 : nano ≤ 999999999) :
    daytime_Stamp.f k (num y m d) sec nano = some (⟨(stext y m d sec nano).toArray⟩, none) := by
  obtain ⟨k, rfl⟩ : ∃ j, k = j + 1 := ⟨k - 1, by omega⟩
  obtain ⟨y', m', d', v', hn, e⟩ := of_ok k (num y m d) (by omega) (num_bd v).1 (num_bd v).2; obtain ⟨rfl, rfl, rfl⟩ := num_inj v v' hn.symm; obtain ⟨b1, b2, b3⟩ := tod_bd _ _ _ (tod_vld sec s0 s1)
  unfold daytime_Stamp.f
  have nb : ¬ (sec < 0 ∨ 86400 < sec) := by omega
  rw [tof (k + 1) sec (by omega), if_neg nb]; simp only [Option.bind_some, Option.isNone_none, if_true]; rw [if_neg (by omega : ¬ nano < 0), decide_eq_false (by omega : ¬ nano ≥ 1000000000)]; simp only [daytime_Stamp.j0, Bool.false_eq_true, if_false]; rw [e]; simp only [Option.bind_some, Option.isNone_none, if_true]; rw [text k _ _ _ (by omega), if_pos v]; have e84 : (⟨#[84]⟩ : ByteArray) = ⟨([84] : List UInt8).toArray⟩ := rfl; have e58 : (⟨#[58]⟩ : ByteArray) = ⟨([58] : List UInt8).toArray⟩ := rfl; have e46 : (⟨#[46]⟩ : ByteArray) = ⟨([46] : List UInt8).toArray⟩ := rfl; simp only [Option.bind_some, Option.isNone_none, if_true, digs2 _ b1.1 b1.2, digs2 _ b2.1 b2.2, digs2 _ b3.1 b3.2, digs9 _ n0 n1, e84, e58, e46, ba_app, ba_size, List.length_append, digs_len, dtext_len v, List.length_cons, List.length_nil]
  repeat rw [if_pos (by omega)]
  simp [stext]
theorem dstamp_arg (k : Nat) (day sec nano : Int) (hk : 2 ≤ k) (h : ¬ (0 ≤ sec ∧ sec ≤ 86400 ∧ 0 ≤ nano ∧ nano ≤ 999999999)) : daytime_Stamp.f k day sec nano = some (⟨#[]⟩, some 1) := by
  obtain ⟨k, rfl⟩ : ∃ j, k = j + 1 := ⟨k - 1, by omega⟩
  unfold daytime_Stamp.f
  rw [tof (k + 1) sec (by omega)]
  by_cases c : sec < 0 ∨ 86400 < sec
  · rw [if_pos c]; simp [daytime_Stamp.j0]
  · rw [if_neg c]; simp only [Option.bind_some, Option.isNone_none, if_true]
    by_cases a : nano < 0
    · rw [if_pos a]; simp [daytime_Stamp.j0]
    · rw [if_neg a, decide_eq_true (by omega : nano ≥ 1000000000)]; simp [daytime_Stamp.j0]
theorem dstamp_day (k : Nat) (day sec nano : Int) (hk : 5 ≤ k) (w0 : -9223372036854775808 ≤ day) (w1 : day ≤ 9223372036854775807) (hd : day < -719162 ∨ 2932896 < day) (s0 : 0 ≤ sec) (s1 : sec ≤ 86400) (n0 : 0 ≤ nano) (n1 : nano ≤ 999999999) : daytime_Stamp.f k day sec nano = some (⟨#[]⟩, some 2) := by
  obtain ⟨k, rfl⟩ : ∃ j, k = j + 1 := ⟨k - 1, by omega⟩
  unfold daytime_Stamp.f
  have nb : ¬ (sec < 0 ∨ 86400 < sec) := by omega
  rw [tof (k + 1) sec (by omega), if_neg nb]; simp only [Option.bind_some, Option.isNone_none, if_true]; rw [if_neg (by omega : ¬ nano < 0), decide_eq_false (by omega : ¬ nano ≥ 1000000000)]; simp only [daytime_Stamp.j0, Bool.false_eq_true, if_false]; rw [of_no k day (by omega) w0 w1 hd]
  simp
/-- The document's digits: so many of them, from behind. -/
theorem two_go (k : Nat) : ∀ (w : Nat) (x0 x1 : Int) (l : List UInt8), 0 ≤ x0 → x0 ≤ 9223372036854775807 → w + l.length ≤ 100 → x1 ≤ 100 → x1 = w + l.length → w + 1 ≤ k →
    fuseeref07_Two.l0 k x0 x1 ⟨l.toArray⟩ (l.length : Int) = some ⟨(digs w x0 ++ l).toArray⟩ := by
  intro w
  induction w generalizing k with
  | zero =>
    intro x0 x1 l _ _ _ _ hx hk
    obtain ⟨k, rfl⟩ : ∃ j, k = j + 1 := ⟨k - 1, by omega⟩
    have : x1 = (l.length : Int) := by omega
    rw [this, two_end]; rfl
  | succ w ih =>
    intro x0 x1 l h0 h1 hl h100 hx hk
    obtain ⟨k, rfl⟩ : ∃ j, k = j + 1 := ⟨k - 1, by omega⟩
    rw [two_step k x0 x1 _ l (by omega) h0 h1 (by omega) h100 (by omega)]
    have e : (l.length : Int) + 1 = ((dg (x0 % 10) :: l).length : Int) := by simp
    have h := ih k (x0 / 10) x1 (dg (x0 % 10) :: l) (by omega) (by omega) (by simp; omega) h100 (by simp; omega) (by omega); rw [← e] at h; rw [h]
    simp [digs]
theorem two_w (k w : Nat) (n : Int) (hk : w + 1 ≤ k) (hw : w ≤ 100) (h0 : 0 ≤ n) (h1 : n ≤ 9223372036854775807) : fuseeref07_Two.f k n w = some ⟨(digs w n).toArray⟩ := by
  unfold fuseeref07_Two.f
  have h := two_go k w n w [] h0 h1 (by simp; omega) (by omega) (by simp) hk
  simpa using h
theorem rstamp_ok (k : Nat) (y m d sec nano : Int) (hk : 20010 ≤ k) (v : vld y m d) (s0 : 0 ≤ sec) (s1 : sec ≤ 86400) (n0 : 0 ≤ nano) (n1 : nano ≤ 999999999) :
    fuseeref08_Stamp.f k (num y m d) sec nano = some (⟨(stext y m d sec nano).toArray⟩, 0) := by
  obtain ⟨k, rfl⟩ : ∃ j, k = j + 1 := ⟨k - 1, by omega⟩
  obtain ⟨y', m', d', v', hn, e⟩ := rof_ok k (num y m d) (by omega) (num_bd v).1 (num_bd v).2; obtain ⟨rfl, rfl, rfl⟩ := num_inj v v' hn.symm; obtain ⟨b1, b2, b3⟩ := tod_bd _ _ _ (tod_vld sec s0 s1)
  unfold fuseeref08_Stamp.f
  rw [if_neg (by omega), if_neg (by omega), if_neg (by omega), decide_eq_false (by omega : ¬ nano > 999999999)]; simp only [fuseeref08_Stamp.j0, Bool.false_eq_true, if_false]; rw [e]; simp only [Option.bind_some, if_true]; rw [rtof sec s0 s1]; simp only [Option.bind_some]; rw [rtext k _ _ _ (by omega) v]; have e84 : (⟨#[84]⟩ : ByteArray) = ⟨([84] : List UInt8).toArray⟩ := rfl; have e58 : (⟨#[58]⟩ : ByteArray) = ⟨([58] : List UInt8).toArray⟩ := rfl; have e46 : (⟨#[46]⟩ : ByteArray) = ⟨([46] : List UInt8).toArray⟩ := rfl
  have T2 : ∀ n : Int, 0 ≤ n → n ≤ 99 → fuseeref07_Two.f k n 2 = some ⟨(digs 2 n).toArray⟩ := fun n a b => two_w k 2 n (by omega) (by omega) a (by omega)
  have T9 : fuseeref07_Two.f k nano 9 = some ⟨(digs 9 nano).toArray⟩ := two_w k 9 nano (by omega) (by omega) n0 (by omega); simp only [Option.bind_some, T2 _ b1.1 b1.2, T2 _ b2.1 b2.2, T2 _ b3.1 b3.2, T9, e84, e58, e46, ba_app, ba_size, List.length_append, digs_len, dtext_len v, List.length_cons, List.length_nil]
  repeat rw [if_pos (by omega)]
  simp [stext]
end Go.Proofs.YtfjifhkgifefeaaGreatDoor.CivP
end

section
namespace Go.Proofs.YtfjifhkgifefeaaGreatDoor.PA
open Giv Go.RowKit YtfjifhkgifefeaaGreatDoorW.PrintWords YtfjifhkgifefeaaGreatDoorW.PrintLast YtfjifhkgifefeaaGreatDoorW.PrintMore
attribute [local go_sem] max2_int min2_int max_two min_two max_three min_three max_four min_four
set_option linter.unusedVariables false
set_option linter.unusedSimpArgs false
def fuseelaw07_sure.f (k : Nat)  : Option (Bool) := (civil_Days.f k 2000 2 29).bind fun bt149 => ((civil_Of.f k 0).bind fun bt151 => ((civil_Text.f k bt151.1 bt151.2.1 bt151.2.2.1).bind fun bt156 => ((civil_Parse.f (⟨#[50, 48, 48, 49, 45, 48, 50, 45, 50, 57]⟩ : ByteArray)).bind fun bt158 => (if bt149.2.isNone = true then (if bt151.2.2.2.isNone = true then (if bt156.2.isNone = true then (if bt149.1 = 11016 then ((civil_Weekday.f bt149.1).bind fun t166 => (if t166 = 2 then (if bt156.1.toList = ([49, 57, 55, 48, 45, 48, 49, 45, 48, 49] : List UInt8) then ((fuseelaw07_num.f bt158.2.2.2).bind fun t167 => (if t167 = 3 then ((civil_Leap.f 2000).bind fun t168 => (if t168 = true then ((civil_Month.f k 1900 2).bind fun t169 => (some (t169 == 28))) else (some false))) else (some false))) else (some false)) else (some false))) else (some false)) else (some false)) else (some false)) else (some false)))))
end Go.Proofs.YtfjifhkgifefeaaGreatDoor.PA
end

section
/- The closed part of the civil laws ('sure'): it is true. -/
namespace Go.Proofs.YtfjifhkgifefeaaGreatDoor.CivP
open Go.RowKit Go.Proofs.YtfjifhkgifefeaaGreatDoor.PA Go.Proofs.YtfjifhkgifefeaaGreatDoor.CivM Go.Proofs.YtfjifhkgifefeaaGreatDoor.StrM Go.Proofs.YtfjifhkgifefeaaGreatDoor.Giv Go.Proofs.YtfjifhkgifefeaaGreatDoorW.PrintWords
theorem of_zero (k : Nat) (hk : 3 ≤ k) : civil_Of.f k 0 = some (1970, 1, 1, none) := by
  obtain ⟨y, m, d, v, hn, r⟩ := of_ok k 0 hk (by omega) (by omega)
  have v2 : vld 1970 1 1 := by decide
  have n2 : num 1970 1 1 = 0 := by decide
  obtain ⟨rfl, rfl, rfl⟩ := num_inj v v2 (by rw [hn, n2])
  exact r
end Go.Proofs.YtfjifhkgifefeaaGreatDoor.CivP
end

section
namespace Go.Proofs.YtfjifhkgifefeaaGreatDoor.PA
open Giv Go.RowKit YtfjifhkgifefeaaGreatDoorW.PrintWords YtfjifhkgifefeaaGreatDoorW.PrintLast YtfjifhkgifefeaaGreatDoorW.PrintMore
attribute [local go_sem] max2_int min2_int max_two min_two max_three min_three max_four min_four
set_option linter.unusedVariables false
set_option linter.unusedSimpArgs false
def fuseelaw08_sure.f (k : Nat)  : Option (Bool) := (daytime_Stamp.f k 0 3661 0).bind fun bt291 => ((daytime_Parse.f k (⟨#[50, 48, 49, 54, 45, 49, 50, 45, 51, 49, 84, 50, 51, 58, 53, 57, 58, 54, 48, 46, 53, 48, 48, 48, 48, 48, 48, 48, 48]⟩ : ByteArray)).bind fun bt293 => ((daytime_Of.f k 86401).bind fun bt297 => (if bt291.2.isNone = true then (if bt293.2.2.2.isNone = true then (if bt291.1.toList = ([49, 57, 55, 48, 45, 48, 49, 45, 48, 49, 84, 48, 49, 58, 48, 49, 58, 48, 49, 46, 48, 48, 48, 48, 48, 48, 48, 48, 48] : List UInt8) then (if bt293.1 = 17166 then (if bt293.2.1 = 86400 then (if bt293.2.2.1 = 500000000 then ((fuseelaw08_num.f bt297.2.2.2).bind fun t304 => (some (t304 == 1))) else (some false)) else (some false)) else (some false)) else (some false)) else (some false)) else (some false))))
end Go.Proofs.YtfjifhkgifefeaaGreatDoor.PA
end

section
/- What the printed daytime.Parse answers of a stamp; the closed part of the daytime laws ('sure'): it is true. -/
namespace Go.Proofs.YtfjifhkgifefeaaGreatDoor.CivP
open Go.RowKit Go.Proofs.YtfjifhkgifefeaaGreatDoor.PA Go.Proofs.YtfjifhkgifefeaaGreatDoor.CivM Go.Proofs.YtfjifhkgifefeaaGreatDoor.StrM Go.Proofs.YtfjifhkgifefeaaGreatDoor.Giv Go.Proofs.YtfjifhkgifefeaaGreatDoorW.PrintWords
theorem ext_eq (l a b c : List UInt8) (h : l = a ++ (b ++ c)) (i j : Nat) (hi : i = a.length) (hj : j = a.length + b.length) : (⟨l.toArray⟩ : ByteArray).extract i j = ⟨b.toArray⟩ := by
  subst h hi hj
  apply ByteArray.ext
  rw [ByteArray.data_extract]
  simp
theorem number_digs (w : Nat) (n : Int) (hw : w + 1 ≤ 18) (h0 : 0 ≤ n) (h1 : n < 10 ^ (w + 1)) : daytime_number.f ⟨(digs (w + 1) n).toArray⟩ = some n := by
  unfold daytime_number.f numberOf
  have hl : (digs (w + 1) n).length = w + 1 := digs_len _ _; rw [ba_size, hl, if_pos (by omega)]; have e : (⟨(digs (w + 1) n).toArray⟩ : ByteArray).data.toList = digs (w + 1) n := rfl; rw [e, atoi_digits _ (by intro h; rw [h] at hl; simp at hl) (by omega) (digs_all _ n h0), decv_digs _ n h0 h1]
theorem stext_len {y m d sec nano : Int} (v : vld y m d) : (stext y m d sec nano).length = 29 := by simp [stext, dtext_len v, digs_len]
theorem parse_dtext {y m d : Int} (v : vld y m d) : civil_Parse.f ⟨(dtext y m d).toArray⟩ = some (y, m, d, none) := by
  unfold civil_Parse.f
  rw [if_pos (by rw [ba_size, dtext_len v]; omega)]; have e : (⟨(dtext y m d).toArray⟩ : ByteArray).data.toList = dtext y m d := rfl; rw [e, dateOf_dtext v]
theorem dparse_ok (k : Nat) (y m d sec nano : Int) (hk : 5 ≤ k) (v : vld y m d) (s0 : 0 ≤ sec) (s1 : sec ≤ 86400) (n0 : 0 ≤ nano) (n1 : nano ≤ 999999999) :
    daytime_Parse.f k ⟨(stext y m d sec nano).toArray⟩ = some (num y m d, sec, nano, none) := by
  have tv := tod_vld sec s0 s1; have ts := tsec_tod sec s0 s1; obtain ⟨b1, b2, b3⟩ := tod_bd _ _ _ tv
  have hs : (⟨(stext y m d sec nano).toArray⟩ : ByteArray).size = 29 := by rw [ba_size, stext_len v]
  have x0 : (⟨(stext y m d sec nano).toArray⟩ : ByteArray).extract 0 10 = ⟨(dtext y m d).toArray⟩ := ext_eq _ [] (dtext y m d) _ (by simp [stext]; rfl) 0 10 (by simp) (by simp [dtext_len v]); have x1 : (⟨(stext y m d sec nano).toArray⟩ : ByteArray).extract 11 13 = ⟨(digs 2 (tod sec).1).toArray⟩ := ext_eq _ (dtext y m d ++ [84]) (digs 2 (tod sec).1) (58 :: (digs 2 (tod sec).2.1 ++ 58 :: (digs 2 (tod sec).2.2 ++ 46 :: digs 9 nano))) (by simp [stext]) 11 13 (by simp [dtext_len v]) (by simp [dtext_len v, digs_len]); have x2 : (⟨(stext y m d sec nano).toArray⟩ : ByteArray).extract 14 16 = ⟨(digs 2 (tod sec).2.1).toArray⟩ := ext_eq _ (dtext y m d ++ 84 :: digs 2 (tod sec).1 ++ [58]) (digs 2 (tod sec).2.1) (58 :: (digs 2 (tod sec).2.2 ++ 46 :: digs 9 nano)) (by simp [stext]) 14 16 (by simp [dtext_len v, digs_len]) (by simp [dtext_len v, digs_len]); have x3 : (⟨(stext y m d sec nano).toArray⟩ : ByteArray).extract 17 19 = ⟨(digs 2 (tod sec).2.2).toArray⟩ := ext_eq _ (dtext y m d ++ 84 :: digs 2 (tod sec).1 ++ 58 :: digs 2 (tod sec).2.1 ++ [58]) (digs 2 (tod sec).2.2) (46 :: digs 9 nano) (by simp [stext]) 17 19 (by simp [dtext_len v, digs_len]) (by simp [dtext_len v, digs_len]); have x4 : (⟨(stext y m d sec nano).toArray⟩ : ByteArray).extract 20 29 = ⟨(digs 9 nano).toArray⟩ := ext_eq _ (dtext y m d ++ 84 :: digs 2 (tod sec).1 ++ 58 :: digs 2 (tod sec).2.1 ++ 58 :: digs 2 (tod sec).2.2 ++ [46]) (digs 9 nano) [] (by simp [stext]) 20 29 (by simp [dtext_len v, digs_len]) (by simp [dtext_len v, digs_len])
  have N2 : ∀ n : Int, 0 ≤ n → n ≤ 99 → daytime_number.f ⟨(digs 2 n).toArray⟩ = some n := fun n a b => number_digs 1 n (by omega) a (by show n < 10 ^ 2; omega)
  have N9 : daytime_number.f ⟨(digs 9 nano).toArray⟩ = some nano := number_digs 8 nano (by omega) n0 (by show nano < 10 ^ 9; omega)
  unfold daytime_Parse.f
  rw [hs, x0, x1, x2, x3, x4, parse_dtext v, N2 _ b1.1 b1.2, N2 _ b2.1 b2.2, N2 _ b3.1 b3.2, N9]; simp only [Option.bind_some, Option.isNone_none, if_true]; rw [days k y m d (by omega), if_pos v, tseconds, if_pos tv, ts]; simp only [Option.bind_some, Option.isNone_none, if_true]; rw [dstamp_ok k y m d sec nano hk v s0 s1 n0 n1]; simp only [Option.bind_some, Option.isNone_none, if_true]
  repeat rw [if_pos (by omega)]
end Go.Proofs.YtfjifhkgifefeaaGreatDoor.CivP
end

section
namespace Go.Proofs.YtfjifhkgifefeaaGreatDoor.PA
open Giv Go.RowKit YtfjifhkgifefeaaGreatDoorW.PrintWords YtfjifhkgifefeaaGreatDoorW.PrintLast YtfjifhkgifefeaaGreatDoorW.PrintMore
attribute [local go_sem] max2_int min2_int max_two min_two max_three min_three max_four min_four
set_option linter.unusedVariables false
set_option linter.unusedSimpArgs false
def fuseeref08_Parse.j0 : Nat → ByteArray → Bool → Option (Int × Int × Int × Int)
 | 0, _, _ => none
 | k + 1, x0, x32 => if x32 = true then (some (0, 0, 0, 3)) else (if 0 ≤ 10 then (if 10 ≤ (x0.size : Int) then ((fuseeref07_Parse.f k (x0.extract 0 10)).bind fun bt343 => (if 11 ≤ 13 then (if 13 ≤ (x0.size : Int) then ((fuseeref07_Digits.f k (x0.extract 11 13)).bind fun t348 => (if 14 ≤ 16 then (if 16 ≤ (x0.size : Int) then ((fuseeref07_Digits.f k (x0.extract 14 16)).bind fun t349 => (if 17 ≤ 19 then (if 19 ≤ (x0.size : Int) then ((fuseeref07_Digits.f k (x0.extract 17 19)).bind fun t350 => ((fuseeref08_Seconds.f k t348 t349 t350).bind fun t351 => (if 20 ≤ (x0.size : Int) then ((fuseeref07_Digits.f k (x0.extract 20 x0.size)).bind fun t352 => (if bt343.2.2.2 = 0 then (if t351 < 0 then (some (0, 0, 0, 3)) else (if t352 < 0 then (some (0, 0, 0, 3)) else ((fuseeref07_Days.f k bt343.1 bt343.2.1 bt343.2.2.1).bind fun t353 => (some (t353, t351, t352, 0))))) else (some (0, 0, 0, 3)))) else (none)))) else (none)) else (none))) else (none)) else (none))) else (none)) else (none))) else (none)) else (none))
def fuseeref08_Parse.f (k : Nat) (a0 : ByteArray) : Option (Int × Int × Int × Int) := if (a0.size : Int) = 29 then (if 10 < (a0.size : Int) then (if (bt a0 10) = 84 then (if 13 < (a0.size : Int) then (if (bt a0 13) = 58 then (if 16 < (a0.size : Int) then (if (bt a0 16) = 58 then (if 19 < (a0.size : Int) then (fuseeref08_Parse.j0 k a0 ((bt a0 19) != 46)) else (none)) else (fuseeref08_Parse.j0 k a0 true)) else (none)) else (fuseeref08_Parse.j0 k a0 true)) else (none)) else (fuseeref08_Parse.j0 k a0 true)) else (none)) else (fuseeref08_Parse.j0 k a0 true)
def fuseeref08_Parse.T4 : Bool × List (List Nat × List Nat) := (true, [([], []), ([0], [0]), ([1], [1]), ([], []), ([3], [3]), ([4, 2], [4]), ([], []), ([6], [6]), ([7, 5], [7]), ([2, 5, 8], [2, 5, 8]), ([9, 8], [9]), ([10, 10, 0, 1, 2, 3, 4, 5, 6, 7, 8, 9, 10], [10])])
def fuseeref08_Parse.B4 : List Nat := [0, 1, 3, 0, 8, 31, 0, 64, 255, 511, 1023, 2047]
theorem fuseeref08_Parse.tab4 : rtab .any (opsOf Tryz.f42 4) = fuseeref08_Parse.T4 := by kernel_rfl
theorem fuseeref08_Parse.bits4 : waitsOk fuseeref08_Parse.T4.2 fuseeref08_Parse.B4 = true := by kernel_rfl
theorem fuseeref08_Parse.calls (k : Nat) (a0 : ByteArray) (r1 : Int) (r2 : Int) (r3 : Int) (r4 : Int) (w : World) (h : fuseeref08_Parse.f k a0 = some (r1, r2, r3, r4)) :
  Calls Tryz.prog 42 #[.string a0] w fun e w' => e = .returned (.tuple #[.int .i64 r1, .int .i64 r2, .int .i64 r3, .int .i64 r4]) ∧ Below w.heap.size w w' := by
 have hu23 := Tryz.underlying23; have hu49 := Tryz.underlying49; have HB := Aside0.mk (Below.refl w.heap.size w); have H := h; clear h
 unfold fuseeref08_Parse.f at H
 have HC2 := Aside0.mk H; clear H
 go_enter Tryz.func42, Tryz.ntmps42
 go_upto_region 1 with (fail)
 go_cut [32] (fun v32 wc => ∃ (kq : Nat) (x32_1 : Bool), v32 = .bool x32_1 ∧ Aside0 (fuseeref08_Parse.j0 kq a0 x32_1 = some (r1, r2, r3, r4)) ∧ Aside0 (kq ≤ k) ∧ Aside0 (Below w.heap.size w wc))
 case first =>
  have H := HC2.out; clear HC2
  by_cases c3 : (a0.size : Int) = 29
  ·rw [if_pos c3] at H; have c3b0 : ((a0.size : Int) == 29) = true := beq_iff_eq.mpr c3; have c3b1 : ((a0.size : Int) != 29) = false := bne_eq_false_iff_eq.mpr c3; clear c3
   (first | rw [c3b0] | (simp only [i64_w, i32_w]; rw [c3b0]) | skip)
   by_cases c4 : 10 < (a0.size : Int)
   ·rw [if_pos c4] at H; have c4b0 : decide (10 < (a0.size : Int)) = true := decide_eq_true c4; have c4b1 : decide (10 < a0.size) = true := decide_eq_true (by omega); clear c4
    by_cases c6 : (bt a0 10) = 84
    ·rw [if_pos c6] at H; have c6b0 : ((bt a0 10) == 84) = true := beq_iff_eq.mpr c6; have c6b1 : ((bt a0 10) != 84) = false := bne_eq_false_iff_eq.mpr c6; clear c6
     by_cases c7 : 13 < (a0.size : Int)
     ·rw [if_pos c7] at H; have c7b0 : decide (13 < (a0.size : Int)) = true := decide_eq_true c7; have c7b1 : decide (13 < a0.size) = true := decide_eq_true (by omega); clear c7
      by_cases c9 : (bt a0 13) = 58
      ·rw [if_pos c9] at H; have c9b0 : ((bt a0 13) == 58) = true := beq_iff_eq.mpr c9; have c9b1 : ((bt a0 13) != 58) = false := bne_eq_false_iff_eq.mpr c9; clear c9
       by_cases c10 : 16 < (a0.size : Int)
       ·rw [if_pos c10] at H; have c10b0 : decide (16 < (a0.size : Int)) = true := decide_eq_true c10; have c10b1 : decide (16 < a0.size) = true := decide_eq_true (by omega); clear c10
        by_cases c12 : (bt a0 16) = 58
        ·rw [if_pos c12] at H; have c12b0 : ((bt a0 16) == 58) = true := beq_iff_eq.mpr c12; have c12b1 : ((bt a0 16) != 58) = false := bne_eq_false_iff_eq.mpr c12; clear c12
         by_cases c13 : 19 < (a0.size : Int)
         ·rw [if_pos c13] at H; have c13b0 : decide (19 < (a0.size : Int)) = true := decide_eq_true c13; have c13b1 : decide (19 < a0.size) = true := decide_eq_true (by omega); clear c13; have H' := Aside0.mk H; clear H
          have p5 : 0 ≤ (10 : Int) := (by omega)
          have q5 : 10 < a0.size := (by have : (10 : Int) < (a0.size : Int) := of_decide_eq_true as_; omega)
          have hx5 : ∀ h : 10 < a0.size, ((a0[10]'h).toNat : Int) = bt a0 10 := bt_at a0 10; clear p5; have qi5 : (10 < (a0.size : Int)) = True := eq_true (of_decide_eq_true as_); replace q5 := eq_true q5
          have p8 : 0 ≤ (13 : Int) := (by omega)
          have q8 : 13 < a0.size := (by have : (13 : Int) < (a0.size : Int) := of_decide_eq_true as_; omega)
          have hx8 : ∀ h : 13 < a0.size, ((a0[13]'h).toNat : Int) = bt a0 13 := bt_at a0 13; clear p8; have qi8 : (13 < (a0.size : Int)) = True := eq_true (of_decide_eq_true as_); replace q8 := eq_true q8
          have p11 : 0 ≤ (16 : Int) := (by omega)
          have q11 : 16 < a0.size := (by have : (16 : Int) < (a0.size : Int) := of_decide_eq_true as_; omega)
          have hx11 : ∀ h : 16 < a0.size, ((a0[16]'h).toNat : Int) = bt a0 16 := bt_at a0 16; clear p11; have qi11 : (16 < (a0.size : Int)) = True := eq_true (of_decide_eq_true as_); replace q11 := eq_true q11
          have p14 : 0 ≤ (19 : Int) := (by omega)
          have q14 : 19 < a0.size := (by have : (19 : Int) < (a0.size : Int) := of_decide_eq_true as_; omega)
          have hx14 : ∀ h : 19 < a0.size, ((a0[19]'h).toNat : Int) = bt a0 19 := bt_at a0 19; clear p14; have qi14 : (19 < (a0.size : Int)) = True := eq_true (of_decide_eq_true as_); replace q14 := eq_true q14
          go_wp2
          go_meet
          case rel => exact ⟨_, (((bt a0 19) != 46)), rs_, H', ⟨by first | omega | exact Nat.le_refl _⟩, ⟨bl_⟩⟩
         ·rw [if_neg c13] at H; exact absurd H (by simp)
        ·rw [if_neg c12] at H; have c12b0 : ((bt a0 16) == 58) = false := beq_eq_false_iff_ne.mpr c12; have c12b1 : ((bt a0 16) != 58) = true := bne_iff_ne.mpr c12; have H' := Aside0.mk H; clear H
         have p5 : 0 ≤ (10 : Int) := (by omega)
         have q5 : 10 < a0.size := (by have : (10 : Int) < (a0.size : Int) := of_decide_eq_true as_; omega)
         have hx5 : ∀ h : 10 < a0.size, ((a0[10]'h).toNat : Int) = bt a0 10 := bt_at a0 10; clear p5; have qi5 : (10 < (a0.size : Int)) = True := eq_true (of_decide_eq_true as_); replace q5 := eq_true q5
         have p8 : 0 ≤ (13 : Int) := (by omega)
         have q8 : 13 < a0.size := (by have : (13 : Int) < (a0.size : Int) := of_decide_eq_true as_; omega)
         have hx8 : ∀ h : 13 < a0.size, ((a0[13]'h).toNat : Int) = bt a0 13 := bt_at a0 13; clear p8; have qi8 : (13 < (a0.size : Int)) = True := eq_true (of_decide_eq_true as_); replace q8 := eq_true q8
         have p11 : 0 ≤ (16 : Int) := (by omega)
         have q11 : 16 < a0.size := (by have : (16 : Int) < (a0.size : Int) := of_decide_eq_true as_; omega)
         have hx11 : ∀ h : 16 < a0.size, ((a0[16]'h).toNat : Int) = bt a0 16 := bt_at a0 16; clear p11; have qi11 : (16 < (a0.size : Int)) = True := eq_true (of_decide_eq_true as_); replace q11 := eq_true q11
         go_wp2
         go_meet
         case rel => exact ⟨_, (true), rs_, H', ⟨by first | omega | exact Nat.le_refl _⟩, ⟨bl_⟩⟩
       ·rw [if_neg c10] at H; exact absurd H (by simp)
      ·rw [if_neg c9] at H; have c9b0 : ((bt a0 13) == 58) = false := beq_eq_false_iff_ne.mpr c9; have c9b1 : ((bt a0 13) != 58) = true := bne_iff_ne.mpr c9; have H' := Aside0.mk H; clear H
       have p5 : 0 ≤ (10 : Int) := (by omega)
       have q5 : 10 < a0.size := (by have : (10 : Int) < (a0.size : Int) := of_decide_eq_true as_; omega)
       have hx5 : ∀ h : 10 < a0.size, ((a0[10]'h).toNat : Int) = bt a0 10 := bt_at a0 10; clear p5; have qi5 : (10 < (a0.size : Int)) = True := eq_true (of_decide_eq_true as_); replace q5 := eq_true q5
       have p8 : 0 ≤ (13 : Int) := (by omega)
       have q8 : 13 < a0.size := (by have : (13 : Int) < (a0.size : Int) := of_decide_eq_true as_; omega)
       have hx8 : ∀ h : 13 < a0.size, ((a0[13]'h).toNat : Int) = bt a0 13 := bt_at a0 13; clear p8; have qi8 : (13 < (a0.size : Int)) = True := eq_true (of_decide_eq_true as_); replace q8 := eq_true q8
       go_wp2
       go_meet
       case rel => exact ⟨_, (true), rs_, H', ⟨by first | omega | exact Nat.le_refl _⟩, ⟨bl_⟩⟩
     ·rw [if_neg c7] at H; exact absurd H (by simp)
    ·rw [if_neg c6] at H; have c6b0 : ((bt a0 10) == 84) = false := beq_eq_false_iff_ne.mpr c6; have c6b1 : ((bt a0 10) != 84) = true := bne_iff_ne.mpr c6; have H' := Aside0.mk H; clear H
     have p5 : 0 ≤ (10 : Int) := (by omega)
     have q5 : 10 < a0.size := (by have : (10 : Int) < (a0.size : Int) := of_decide_eq_true as_; omega)
     have hx5 : ∀ h : 10 < a0.size, ((a0[10]'h).toNat : Int) = bt a0 10 := bt_at a0 10; clear p5; have qi5 : (10 < (a0.size : Int)) = True := eq_true (of_decide_eq_true as_); replace q5 := eq_true q5
     go_wp2
     go_meet
     case rel => exact ⟨_, (true), rs_, H', ⟨by first | omega | exact Nat.le_refl _⟩, ⟨bl_⟩⟩
   ·rw [if_neg c4] at H; exact absurd H (by simp)
  ·rw [if_neg c3] at H; have c3b0 : ((a0.size : Int) == 29) = false := beq_eq_false_iff_ne.mpr c3; have c3b1 : ((a0.size : Int) != 29) = true := bne_iff_ne.mpr c3
   (first | rw [c3b0] | (simp only [i64_w, i32_w]; rw [c3b0]) | skip)
   have H' := Aside0.mk H; clear H
   go_wp2
   go_meet
   case rel => exact ⟨_, (true), rs_, H', ⟨by first | omega | exact Nat.le_refl _⟩, ⟨bl_⟩⟩
 case rest =>
  clear HC2; (try clear c1); (try clear p1); (try clear q1); (try clear hx1); (try clear qi1); (try clear p2); (try clear c3); (try clear c3b0); (try clear c3b1); (try clear c4); (try clear c4b0); (try clear c4b1); (try clear p5); (try clear q5); (try clear hx5); (try clear qi5); (try clear c6); (try clear c6b0); (try clear c6b1); (try clear c7); (try clear c7b0); (try clear c7b1); (try clear p8); (try clear q8); (try clear hx8); (try clear qi8); (try clear c9); (try clear c9b0); (try clear c9b1); (try clear c10); (try clear c10b0); (try clear c10b1); (try clear p11); (try clear q11); (try clear hx11); (try clear qi11); (try clear c12); (try clear c12b0); (try clear c12b1); (try clear c13); (try clear c13b0); (try clear c13b1); (try clear p14); (try clear q14); (try clear hx14); (try clear qi14); (try clear p11); (try clear p14); (try clear p5); (try clear p8); (try clear q11); (try clear q14); (try clear q5); (try clear q8); obtain ⟨kq, x32_1, rfl, HA, HJ1, HB⟩ := hcut
  cases kq with
  | zero => exact absurd HA.out (by simp [fuseeref08_Parse.j0])
  | succ kj1 =>
   have H := HA.out; clear HA; simp only [fuseeref08_Parse.j0] at H
   by_cases c15 : x32_1 = true
   ·subst c15
    have H1 : (some (0, 0, 0, 3)) = some (r1, r2, r3, r4) := by rw [if_pos rfl] at H; exact H
    clear H; have H := H1; clear H1; simp only [Option.some.injEq, Prod.mk.injEq] at H; obtain ⟨rfl, rfl, rfl, rfl⟩ := H
    go_wp2
    refine bodyPost_ret (results_list (rs := [.tmp 2, .tmp 3, .tmp 4, .tmp 5]) rfl (by simp) (.tmp (.tmp (.tmp (.tmp .nil))))) rfl ?_
    exact en_
   ·replace c15 := Bool.eq_false_iff.mpr c15; subst c15
    have H1 : (if 0 ≤ 10 then (if 10 ≤ (a0.size : Int) then ((fuseeref07_Parse.f kj1 (a0.extract 0 10)).bind fun bt343 => (if 11 ≤ 13 then (if 13 ≤ (a0.size : Int) then ((fuseeref07_Digits.f kj1 (a0.extract 11 13)).bind fun t348 => (if 14 ≤ 16 then (if 16 ≤ (a0.size : Int) then ((fuseeref07_Digits.f kj1 (a0.extract 14 16)).bind fun t349 => (if 17 ≤ 19 then (if 19 ≤ (a0.size : Int) then ((fuseeref07_Digits.f kj1 (a0.extract 17 19)).bind fun t350 => ((fuseeref08_Seconds.f kj1 t348 t349 t350).bind fun t351 => (if 20 ≤ (a0.size : Int) then ((fuseeref07_Digits.f kj1 (a0.extract 20 a0.size)).bind fun t352 => (if bt343.2.2.2 = 0 then (if t351 < 0 then (some (0, 0, 0, 3)) else (if t352 < 0 then (some (0, 0, 0, 3)) else ((fuseeref07_Days.f kj1 bt343.1 bt343.2.1 bt343.2.2.1).bind fun t353 => (some (t353, t351, t352, 0))))) else (some (0, 0, 0, 3)))) else (none)))) else (none)) else (none))) else (none)) else (none))) else (none)) else (none))) else (none)) else (none)) = some (r1, r2, r3, r4) := by rw [if_neg (show ¬ (false = true) by decide)] at H; exact H
    clear H; have H := H1; clear H1
    by_cases c16 : 0 ≤ 10
    ·rw [if_pos c16] at H; have c16b0 := eq_true c16; have c16b1 : decide (0 ≤ 10) = true := decide_eq_true c16; clear c16
     by_cases c17 : 10 ≤ (a0.size : Int)
     ·rw [if_pos c17] at H; have c17b0 := eq_true c17; have c17b1 : decide (10 ≤ (a0.size : Int)) = true := decide_eq_true c17; clear c17; replace H := Option.bind_eq_some_iff.mp H; obtain ⟨⟨t343, t344, t345, t346⟩, A180, H⟩ := H; (try dsimp only at H); have A18 := Aside0.mk A180; clear A180
      by_cases c19 : 11 ≤ 13
      ·rw [if_pos c19] at H; have c19b0 := eq_true c19; have c19b1 : decide (11 ≤ 13) = true := decide_eq_true c19; clear c19
       by_cases c20 : 13 ≤ (a0.size : Int)
       ·rw [if_pos c20] at H; have c20b0 := eq_true c20; have c20b1 : decide (13 ≤ (a0.size : Int)) = true := decide_eq_true c20; clear c20; replace H := Option.bind_eq_some_iff.mp H; obtain ⟨t348, A210, H⟩ := H; (try dsimp only at H); have A21 := Aside0.mk A210; clear A210
        by_cases c22 : 14 ≤ 16
        ·rw [if_pos c22] at H; have c22b0 := eq_true c22; have c22b1 : decide (14 ≤ 16) = true := decide_eq_true c22; clear c22
         by_cases c23 : 16 ≤ (a0.size : Int)
         ·rw [if_pos c23] at H; have c23b0 := eq_true c23; have c23b1 : decide (16 ≤ (a0.size : Int)) = true := decide_eq_true c23; clear c23; replace H := Option.bind_eq_some_iff.mp H; obtain ⟨t349, A240, H⟩ := H; (try dsimp only at H); have A24 := Aside0.mk A240; clear A240
          by_cases c25 : 17 ≤ 19
          ·rw [if_pos c25] at H; have c25b0 := eq_true c25; have c25b1 : decide (17 ≤ 19) = true := decide_eq_true c25; clear c25
           by_cases c26 : 19 ≤ (a0.size : Int)
           ·rw [if_pos c26] at H; have c26b0 := eq_true c26; have c26b1 : decide (19 ≤ (a0.size : Int)) = true := decide_eq_true c26; clear c26; replace H := Option.bind_eq_some_iff.mp H; obtain ⟨t350, A270, H⟩ := H; (try dsimp only at H); have A27 := Aside0.mk A270; clear A270; replace H := Option.bind_eq_some_iff.mp H; obtain ⟨t351, A280, H⟩ := H; (try dsimp only at H); have A28 := Aside0.mk A280; clear A280
            by_cases c29 : 20 ≤ (a0.size : Int)
            ·rw [if_pos c29] at H; have c29b0 := eq_true c29; have c29b1 : decide (20 ≤ (a0.size : Int)) = true := decide_eq_true c29; clear c29; replace H := Option.bind_eq_some_iff.mp H; obtain ⟨t352, A300, H⟩ := H; (try dsimp only at H); have A30 := Aside0.mk A300; clear A300
             by_cases c31 : t346 = 0
             ·rw [if_pos c31] at H; have c31b0 : (t346 == 0) = true := beq_iff_eq.mpr c31; have c31b1 : (t346 != 0) = false := bne_eq_false_iff_eq.mpr c31; clear c31
              by_cases c32 : t351 < 0
              ·rw [if_pos c32] at H; have c32b0 : decide (t351 < 0) = true := decide_eq_true c32; clear c32; simp only [Option.some.injEq, Prod.mk.injEq] at H; obtain ⟨rfl, rfl, rfl, rfl⟩ := H
               try go_wp2_with (first | ((with_reducible refine gate_callee (f := 28) rfl ?_); refine gd_ (some 36) Tryz.func28 (fuseeref07_Parse.calls kj1 (a0.extract 0 10) t343 t344 t345 t346 _ A18.out) ?_; intro w33 hb; replace HB := bs_ hb; (try clear hb)) | ((with_reducible refine gate_dst (N := 6) rfl ?_); refine be_ (N := 6) (cs := #[.int .i64 0, .int .i64 0, .int .i64 0]) (t := 23) ?_; intro gb347 hg w34 hbox hb; have BK347 := Aside0.mk hbox; have GW347 := Aside0.mk (sz_ hg : w.heap.size ≤ gb347); have GE347 := GW347; replace HB := bs_ hb; clear hb hbox hg; have hcz35_0 : w34.cell? ⟨gb347, 0, none⟩ = some (.int .i64 0) := (blk_cell BK347.out 0).trans rfl; have hcz35_1 : w34.cell? ⟨gb347, 1, none⟩ = some (.int .i64 0) := (blk_cell BK347.out 1).trans rfl; have hcz35_2 : w34.cell? ⟨gb347, 2, none⟩ = some (.int .i64 0) := (blk_cell BK347.out 2).trans rfl; have hfz35_0 := blk_frozen BK347.out 0; have hfz35_1 := blk_frozen BK347.out 1; have hfz35_2 := blk_frozen BK347.out 2))
               have n0_ : Aside0 ((((w34.setCell ⟨gb347, 0, none⟩ (.int .i64 t343)).setCell ⟨gb347, 1, none⟩ (.int .i64 t344)).setCell ⟨gb347, 2, none⟩ (.int .i64 t345)).heap[gb347]? = some (.cells #[.int .i64 t343, .int .i64 t344, .int .i64 t345] 23 (0, 0))) := ⟨by (with_reducible repeat first | apply blk_drewN | apply blk_drew | apply blk_alloc); refine blk_put (cs := #[.int .i64 t343, .int .i64 t344, .int .i64 0]) ?_ 2 _ rfl; (with_reducible repeat first | apply blk_drewN | apply blk_drew | apply blk_alloc); refine blk_put (cs := #[.int .i64 t343, .int .i64 0, .int .i64 0]) ?_ 1 _ rfl; (with_reducible repeat first | apply blk_drewN | apply blk_drew | apply blk_alloc); refine blk_put (cs := #[.int .i64 0, .int .i64 0, .int .i64 0]) ?_ 0 _ rfl; (with_reducible repeat first | apply blk_drewN | apply blk_drew | apply blk_alloc); exact BK347.out⟩
               have n1_ : Aside0 (Below w.heap.size w (((w34.setCell ⟨gb347, 0, none⟩ (.int .i64 t343)).setCell ⟨gb347, 1, none⟩ (.int .i64 t344)).setCell ⟨gb347, 2, none⟩ (.int .i64 t345))) := ⟨bl_⟩
               (try clear BK347)
               (try clear HB)
               generalize (((w34.setCell ⟨gb347, 0, none⟩ (.int .i64 t343)).setCell ⟨gb347, 1, none⟩ (.int .i64 t344)).setCell ⟨gb347, 2, none⟩ (.int .i64 t345)) = w36 at n0_ n1_ ⊢
               have BK347 := n0_; have HB := n1_; clear n0_ n1_; have n0_ := Aside0.mk (blk_drew BK347.out); have n1_ := Aside0.mk (below_drew1 HB.out); clear BK347; clear HB; have BK347 := n0_; have HB := n1_; clear n0_ n1_
               refine start_ (n := 12) (S := fun w' => True) (ds := []) (bq 12 0) (by kernel_rfl) rfl (by kernel_rfl) trivial (fun hHeld => ?_); refine with_tabW fuseeref08_Parse.tab4 fuseeref08_Parse.bits4 (fun HT_ HW_ => ?_)
               generalize w36.drew = w37 at BK347 HB hHeld ⊢
               refine pa 0 (bq 12 1) (some 39) ?_; refine pa 1 (bq 12 2) (some 40) ?_; refine pa 3 (bs 12 11) (some 42) ?_; refine pa 4 (bs 12 27) (some 43) ?_; refine pa 6 (bs 12 91) (some 45) ?_; refine pa 7 (bs 12 219) (some 46) ?_
               refine one_ (i := 2) (N := some 41) (bs 12 223) rfl rfl (one_of HT_.out (by kernel_rfl)) (by decide) (fun K hK => ?_)
               refine goes_ Tryz.func98 (by kernel_rfl) rfl #[.string (a0.extract 11 13)] (by rfl) rfl rfl ev_ ?_
               with_reducible refine (fuseeref07_Digits.calls kj1 (a0.extract 11 13) t348 _ A21.out).mono ?_
               rintro e w' ⟨rfl, ⟨nd, rfl⟩⟩
               refine ⟨_, rfl, ?_⟩
               refine hK.out _ _ trivial (fun hHeld => ?_)
               clear hK K
               refine norm_ (a' := ?_) ?_ ?_
               rotate_left
               ·show Act.put _ (some 41) _ = _
                simp only [Act.put, List.setIfInBounds_toArray, List.set_cons_zero, List.set_cons_succ, i64_w, i32_w]
                rfl
               refine one_ (i := 5) (N := some 44) (bq 12 8) rfl rfl (one_of HT_.out (by kernel_rfl)) (by decide) (fun K hK => ?_)
               refine goes_ Tryz.func98 (by kernel_rfl) rfl #[.string (a0.extract 14 16)] (by rfl) rfl rfl ev_ ?_
               with_reducible refine (fuseeref07_Digits.calls kj1 (a0.extract 14 16) t349 _ A24.out).mono ?_
               rintro e w' ⟨rfl, ⟨nd, rfl⟩⟩
               refine ⟨_, rfl, ?_⟩
               refine hK.out _ _ trivial (fun hHeld => ?_)
               clear hK K
               refine norm_ (a' := ?_) ?_ ?_
               rotate_left
               ·show Act.put _ (some 44) _ = _
                simp only [Act.put, List.setIfInBounds_toArray, List.set_cons_zero, List.set_cons_succ, i64_w, i32_w]
                rfl
               refine one_ (i := 8) (N := some 47) (bq 12 9) rfl rfl (one_of HT_.out (by kernel_rfl)) (by decide) (fun K hK => ?_)
               refine goes_ Tryz.func98 (by kernel_rfl) rfl #[.string (a0.extract 17 19)] (by rfl) rfl rfl ev_ ?_
               with_reducible refine (fuseeref07_Digits.calls kj1 (a0.extract 17 19) t350 _ A27.out).mono ?_
               rintro e w' ⟨rfl, ⟨nd, rfl⟩⟩
               refine ⟨_, rfl, ?_⟩
               refine hK.out _ _ trivial (fun hHeld => ?_)
               clear hK K
               refine norm_ (a' := ?_) ?_ ?_
               rotate_left
               ·show Act.put _ (some 47) _ = _
                simp only [Act.put, List.setIfInBounds_toArray, List.set_cons_zero, List.set_cons_succ, i64_w, i32_w]
                rfl
               refine pa 9 (bq 12 10) (some 48) ?_
               refine one_ (i := 10) (N := some 49) (bq 12 11) rfl rfl (one_of HT_.out (by kernel_rfl)) (by decide) (fun K hK => ?_)
               refine goes_ Tryz.func34 (by kernel_rfl) rfl #[.agg #[.int .i64 t348, .int .i64 t349, .int .i64 t350]] (by rfl) rfl rfl ev_ ?_
               with_reducible refine (fuseeref08_Seconds.calls kj1 t348 t349 t350 t351 _ A28.out).mono ?_
               rintro e w38 ⟨rfl, hb⟩
               refine ⟨_, rfl, ?_⟩
               have n0_ := Aside0.mk (blk_below (g := gb347) (o := .cells #[.int .i64 t343, .int .i64 t344, .int .i64 t345] 23 (0, 0)) bk_ hb); have n1_ := bs_ hb; clear BK347; clear HB; have BK347 := n0_; have HB := n1_; clear n0_ n1_
               (try clear hb)
               (try clear hb2)
               (try clear hk)
               (try clear hi)
               refine hK.out _ _ trivial (fun hHeld => ?_)
               clear hK K
               refine norm_ (a' := ?_) ?_ ?_
               rotate_left
               ·show Act.put _ (some 49) _ = _
                simp only [Act.put, List.setIfInBounds_toArray, List.set_cons_zero, List.set_cons_succ, i64_w, i32_w]
                rfl
               refine pa 11 (bq 12 12) (some 8) ?_
               refine done_ (done_of HT_.out (by kernel_rfl)) ?_
               try go_wp2_with (first | ((with_reducible refine gate_callee (f := 98) rfl ?_); refine gc_ (some 52) Tryz.func98 (fuseeref07_Digits.calls kj1 (a0.extract 20 a0.size) t352 _ A30.out) ?_; rintro e w' ⟨rfl, ⟨nd, rfl⟩⟩; refine ⟨_, rfl, ?_⟩))
               refine bodyPost_ret (results_list (rs := [.tmp 2, .tmp 3, .tmp 4, .tmp 5]) rfl (by simp) (.tmp (.tmp (.tmp (.tmp .nil))))) rfl ?_
               exact en_
              ·rw [if_neg c32] at H; have c32b0 : decide (t351 < 0) = false := decide_eq_false c32; clear c32
               by_cases c39 : t352 < 0
               ·rw [if_pos c39] at H; have c39b0 : decide (t352 < 0) = true := decide_eq_true c39; clear c39; simp only [Option.some.injEq, Prod.mk.injEq] at H; obtain ⟨rfl, rfl, rfl, rfl⟩ := H
                try go_wp2_with (first | ((with_reducible refine gate_callee (f := 28) rfl ?_); refine gd_ (some 36) Tryz.func28 (fuseeref07_Parse.calls kj1 (a0.extract 0 10) t343 t344 t345 t346 _ A18.out) ?_; intro w40 hb; replace HB := bs_ hb; (try clear hb)) | ((with_reducible refine gate_dst (N := 6) rfl ?_); refine be_ (N := 6) (cs := #[.int .i64 0, .int .i64 0, .int .i64 0]) (t := 23) ?_; intro gb347 hg w41 hbox hb; have BK347 := Aside0.mk hbox; have GW347 := Aside0.mk (sz_ hg : w.heap.size ≤ gb347); have GE347 := GW347; replace HB := bs_ hb; clear hb hbox hg; have hcz42_0 : w41.cell? ⟨gb347, 0, none⟩ = some (.int .i64 0) := (blk_cell BK347.out 0).trans rfl; have hcz42_1 : w41.cell? ⟨gb347, 1, none⟩ = some (.int .i64 0) := (blk_cell BK347.out 1).trans rfl; have hcz42_2 : w41.cell? ⟨gb347, 2, none⟩ = some (.int .i64 0) := (blk_cell BK347.out 2).trans rfl; have hfz42_0 := blk_frozen BK347.out 0; have hfz42_1 := blk_frozen BK347.out 1; have hfz42_2 := blk_frozen BK347.out 2))
                have n0_ : Aside0 ((((w41.setCell ⟨gb347, 0, none⟩ (.int .i64 t343)).setCell ⟨gb347, 1, none⟩ (.int .i64 t344)).setCell ⟨gb347, 2, none⟩ (.int .i64 t345)).heap[gb347]? = some (.cells #[.int .i64 t343, .int .i64 t344, .int .i64 t345] 23 (0, 0))) := ⟨by (with_reducible repeat first | apply blk_drewN | apply blk_drew | apply blk_alloc); refine blk_put (cs := #[.int .i64 t343, .int .i64 t344, .int .i64 0]) ?_ 2 _ rfl; (with_reducible repeat first | apply blk_drewN | apply blk_drew | apply blk_alloc); refine blk_put (cs := #[.int .i64 t343, .int .i64 0, .int .i64 0]) ?_ 1 _ rfl; (with_reducible repeat first | apply blk_drewN | apply blk_drew | apply blk_alloc); refine blk_put (cs := #[.int .i64 0, .int .i64 0, .int .i64 0]) ?_ 0 _ rfl; (with_reducible repeat first | apply blk_drewN | apply blk_drew | apply blk_alloc); exact BK347.out⟩
                have n1_ : Aside0 (Below w.heap.size w (((w41.setCell ⟨gb347, 0, none⟩ (.int .i64 t343)).setCell ⟨gb347, 1, none⟩ (.int .i64 t344)).setCell ⟨gb347, 2, none⟩ (.int .i64 t345))) := ⟨bl_⟩
                (try clear BK347)
                (try clear HB)
                generalize (((w41.setCell ⟨gb347, 0, none⟩ (.int .i64 t343)).setCell ⟨gb347, 1, none⟩ (.int .i64 t344)).setCell ⟨gb347, 2, none⟩ (.int .i64 t345)) = w43 at n0_ n1_ ⊢
                have BK347 := n0_; have HB := n1_; clear n0_ n1_; have n0_ := Aside0.mk (blk_drew BK347.out); have n1_ := Aside0.mk (below_drew1 HB.out); clear BK347; clear HB; have BK347 := n0_; have HB := n1_; clear n0_ n1_
                refine start_ (n := 12) (S := fun w' => True) (ds := []) (bq 12 0) (by kernel_rfl) rfl (by kernel_rfl) trivial (fun hHeld => ?_); refine with_tabW fuseeref08_Parse.tab4 fuseeref08_Parse.bits4 (fun HT_ HW_ => ?_)
                generalize w43.drew = w44 at BK347 HB hHeld ⊢
                refine pa 0 (bq 12 1) (some 39) ?_; refine pa 1 (bq 12 2) (some 40) ?_; refine pa 3 (bs 12 11) (some 42) ?_; refine pa 4 (bs 12 27) (some 43) ?_; refine pa 6 (bs 12 91) (some 45) ?_; refine pa 7 (bs 12 219) (some 46) ?_
                refine one_ (i := 2) (N := some 41) (bs 12 223) rfl rfl (one_of HT_.out (by kernel_rfl)) (by decide) (fun K hK => ?_)
                refine goes_ Tryz.func98 (by kernel_rfl) rfl #[.string (a0.extract 11 13)] (by rfl) rfl rfl ev_ ?_
                with_reducible refine (fuseeref07_Digits.calls kj1 (a0.extract 11 13) t348 _ A21.out).mono ?_
                rintro e w' ⟨rfl, ⟨nd, rfl⟩⟩
                refine ⟨_, rfl, ?_⟩
                refine hK.out _ _ trivial (fun hHeld => ?_)
                clear hK K
                refine norm_ (a' := ?_) ?_ ?_
                rotate_left
                ·show Act.put _ (some 41) _ = _
                 simp only [Act.put, List.setIfInBounds_toArray, List.set_cons_zero, List.set_cons_succ, i64_w, i32_w]
                 rfl
                refine one_ (i := 5) (N := some 44) (bq 12 8) rfl rfl (one_of HT_.out (by kernel_rfl)) (by decide) (fun K hK => ?_)
                refine goes_ Tryz.func98 (by kernel_rfl) rfl #[.string (a0.extract 14 16)] (by rfl) rfl rfl ev_ ?_
                with_reducible refine (fuseeref07_Digits.calls kj1 (a0.extract 14 16) t349 _ A24.out).mono ?_
                rintro e w' ⟨rfl, ⟨nd, rfl⟩⟩
                refine ⟨_, rfl, ?_⟩
                refine hK.out _ _ trivial (fun hHeld => ?_)
                clear hK K
                refine norm_ (a' := ?_) ?_ ?_
                rotate_left
                ·show Act.put _ (some 44) _ = _
                 simp only [Act.put, List.setIfInBounds_toArray, List.set_cons_zero, List.set_cons_succ, i64_w, i32_w]
                 rfl
                refine one_ (i := 8) (N := some 47) (bq 12 9) rfl rfl (one_of HT_.out (by kernel_rfl)) (by decide) (fun K hK => ?_)
                refine goes_ Tryz.func98 (by kernel_rfl) rfl #[.string (a0.extract 17 19)] (by rfl) rfl rfl ev_ ?_
                with_reducible refine (fuseeref07_Digits.calls kj1 (a0.extract 17 19) t350 _ A27.out).mono ?_
                rintro e w' ⟨rfl, ⟨nd, rfl⟩⟩
                refine ⟨_, rfl, ?_⟩
                refine hK.out _ _ trivial (fun hHeld => ?_)
                clear hK K
                refine norm_ (a' := ?_) ?_ ?_
                rotate_left
                ·show Act.put _ (some 47) _ = _
                 simp only [Act.put, List.setIfInBounds_toArray, List.set_cons_zero, List.set_cons_succ, i64_w, i32_w]
                 rfl
                refine pa 9 (bq 12 10) (some 48) ?_
                refine one_ (i := 10) (N := some 49) (bq 12 11) rfl rfl (one_of HT_.out (by kernel_rfl)) (by decide) (fun K hK => ?_)
                refine goes_ Tryz.func34 (by kernel_rfl) rfl #[.agg #[.int .i64 t348, .int .i64 t349, .int .i64 t350]] (by rfl) rfl rfl ev_ ?_
                with_reducible refine (fuseeref08_Seconds.calls kj1 t348 t349 t350 t351 _ A28.out).mono ?_
                rintro e w45 ⟨rfl, hb⟩
                refine ⟨_, rfl, ?_⟩
                have n0_ := Aside0.mk (blk_below (g := gb347) (o := .cells #[.int .i64 t343, .int .i64 t344, .int .i64 t345] 23 (0, 0)) bk_ hb); have n1_ := bs_ hb; clear BK347; clear HB; have BK347 := n0_; have HB := n1_; clear n0_ n1_
                (try clear hb)
                (try clear hb2)
                (try clear hk)
                (try clear hi)
                refine hK.out _ _ trivial (fun hHeld => ?_)
                clear hK K
                refine norm_ (a' := ?_) ?_ ?_
                rotate_left
                ·show Act.put _ (some 49) _ = _
                 simp only [Act.put, List.setIfInBounds_toArray, List.set_cons_zero, List.set_cons_succ, i64_w, i32_w]
                 rfl
                refine pa 11 (bq 12 12) (some 8) ?_
                refine done_ (done_of HT_.out (by kernel_rfl)) ?_
                try go_wp2_with (first | ((with_reducible refine gate_callee (f := 98) rfl ?_); refine gc_ (some 52) Tryz.func98 (fuseeref07_Digits.calls kj1 (a0.extract 20 a0.size) t352 _ A30.out) ?_; rintro e w' ⟨rfl, ⟨nd, rfl⟩⟩; refine ⟨_, rfl, ?_⟩))
                refine bodyPost_ret (results_list (rs := [.tmp 2, .tmp 3, .tmp 4, .tmp 5]) rfl (by simp) (.tmp (.tmp (.tmp (.tmp .nil))))) rfl ?_
                exact en_
               ·rw [if_neg c39] at H; have c39b0 : decide (t352 < 0) = false := decide_eq_false c39; clear c39; replace H := Option.bind_eq_some_iff.mp H; obtain ⟨t353, A460, H⟩ := H; (try dsimp only at H); have A46 := Aside0.mk A460; clear A460; simp only [Option.some.injEq, Prod.mk.injEq] at H; obtain ⟨rfl, rfl, rfl, rfl⟩ := H
                try go_wp2_with (first | ((with_reducible refine gate_callee (f := 28) rfl ?_); refine gd_ (some 36) Tryz.func28 (fuseeref07_Parse.calls kj1 (a0.extract 0 10) t343 t344 t345 t346 _ A18.out) ?_; intro w47 hb; replace HB := bs_ hb; (try clear hb)) | ((with_reducible refine gate_dst (N := 6) rfl ?_); refine be_ (N := 6) (cs := #[.int .i64 0, .int .i64 0, .int .i64 0]) (t := 23) ?_; intro gb347 hg w48 hbox hb; have BK347 := Aside0.mk hbox; have GW347 := Aside0.mk (sz_ hg : w.heap.size ≤ gb347); have GE347 := GW347; replace HB := bs_ hb; clear hb hbox hg; have hcz49_0 : w48.cell? ⟨gb347, 0, none⟩ = some (.int .i64 0) := (blk_cell BK347.out 0).trans rfl; have hcz49_1 : w48.cell? ⟨gb347, 1, none⟩ = some (.int .i64 0) := (blk_cell BK347.out 1).trans rfl; have hcz49_2 : w48.cell? ⟨gb347, 2, none⟩ = some (.int .i64 0) := (blk_cell BK347.out 2).trans rfl; have hfz49_0 := blk_frozen BK347.out 0; have hfz49_1 := blk_frozen BK347.out 1; have hfz49_2 := blk_frozen BK347.out 2))
                have n0_ : Aside0 ((((w48.setCell ⟨gb347, 0, none⟩ (.int .i64 t343)).setCell ⟨gb347, 1, none⟩ (.int .i64 t344)).setCell ⟨gb347, 2, none⟩ (.int .i64 t345)).heap[gb347]? = some (.cells #[.int .i64 t343, .int .i64 t344, .int .i64 t345] 23 (0, 0))) := ⟨by (with_reducible repeat first | apply blk_drewN | apply blk_drew | apply blk_alloc); refine blk_put (cs := #[.int .i64 t343, .int .i64 t344, .int .i64 0]) ?_ 2 _ rfl; (with_reducible repeat first | apply blk_drewN | apply blk_drew | apply blk_alloc); refine blk_put (cs := #[.int .i64 t343, .int .i64 0, .int .i64 0]) ?_ 1 _ rfl; (with_reducible repeat first | apply blk_drewN | apply blk_drew | apply blk_alloc); refine blk_put (cs := #[.int .i64 0, .int .i64 0, .int .i64 0]) ?_ 0 _ rfl; (with_reducible repeat first | apply blk_drewN | apply blk_drew | apply blk_alloc); exact BK347.out⟩
                have n1_ : Aside0 (Below w.heap.size w (((w48.setCell ⟨gb347, 0, none⟩ (.int .i64 t343)).setCell ⟨gb347, 1, none⟩ (.int .i64 t344)).setCell ⟨gb347, 2, none⟩ (.int .i64 t345))) := ⟨bl_⟩
                (try clear BK347)
                (try clear HB)
                generalize (((w48.setCell ⟨gb347, 0, none⟩ (.int .i64 t343)).setCell ⟨gb347, 1, none⟩ (.int .i64 t344)).setCell ⟨gb347, 2, none⟩ (.int .i64 t345)) = w50 at n0_ n1_ ⊢
                have BK347 := n0_; have HB := n1_; clear n0_ n1_; have n0_ := Aside0.mk (blk_drew BK347.out); have n1_ := Aside0.mk (below_drew1 HB.out); clear BK347; clear HB; have BK347 := n0_; have HB := n1_; clear n0_ n1_
                refine start_ (n := 12) (S := fun w' => True) (ds := []) (bq 12 0) (by kernel_rfl) rfl (by kernel_rfl) trivial (fun hHeld => ?_); refine with_tabW fuseeref08_Parse.tab4 fuseeref08_Parse.bits4 (fun HT_ HW_ => ?_)
                generalize w50.drew = w51 at BK347 HB hHeld ⊢
                refine pa 0 (bq 12 1) (some 39) ?_; refine pa 1 (bq 12 2) (some 40) ?_; refine pa 3 (bs 12 11) (some 42) ?_; refine pa 4 (bs 12 27) (some 43) ?_; refine pa 6 (bs 12 91) (some 45) ?_; refine pa 7 (bs 12 219) (some 46) ?_
                refine one_ (i := 2) (N := some 41) (bs 12 223) rfl rfl (one_of HT_.out (by kernel_rfl)) (by decide) (fun K hK => ?_)
                refine goes_ Tryz.func98 (by kernel_rfl) rfl #[.string (a0.extract 11 13)] (by rfl) rfl rfl ev_ ?_
                with_reducible refine (fuseeref07_Digits.calls kj1 (a0.extract 11 13) t348 _ A21.out).mono ?_
                rintro e w' ⟨rfl, ⟨nd, rfl⟩⟩
                refine ⟨_, rfl, ?_⟩
                refine hK.out _ _ trivial (fun hHeld => ?_)
                clear hK K
                refine norm_ (a' := ?_) ?_ ?_
                rotate_left
                ·show Act.put _ (some 41) _ = _
                 simp only [Act.put, List.setIfInBounds_toArray, List.set_cons_zero, List.set_cons_succ, i64_w, i32_w]
                 rfl
                refine one_ (i := 5) (N := some 44) (bq 12 8) rfl rfl (one_of HT_.out (by kernel_rfl)) (by decide) (fun K hK => ?_)
                refine goes_ Tryz.func98 (by kernel_rfl) rfl #[.string (a0.extract 14 16)] (by rfl) rfl rfl ev_ ?_
                with_reducible refine (fuseeref07_Digits.calls kj1 (a0.extract 14 16) t349 _ A24.out).mono ?_
                rintro e w' ⟨rfl, ⟨nd, rfl⟩⟩
                refine ⟨_, rfl, ?_⟩
                refine hK.out _ _ trivial (fun hHeld => ?_)
                clear hK K
                refine norm_ (a' := ?_) ?_ ?_
                rotate_left
                ·show Act.put _ (some 44) _ = _
                 simp only [Act.put, List.setIfInBounds_toArray, List.set_cons_zero, List.set_cons_succ, i64_w, i32_w]
                 rfl
                refine one_ (i := 8) (N := some 47) (bq 12 9) rfl rfl (one_of HT_.out (by kernel_rfl)) (by decide) (fun K hK => ?_)
                refine goes_ Tryz.func98 (by kernel_rfl) rfl #[.string (a0.extract 17 19)] (by rfl) rfl rfl ev_ ?_
                with_reducible refine (fuseeref07_Digits.calls kj1 (a0.extract 17 19) t350 _ A27.out).mono ?_
                rintro e w' ⟨rfl, ⟨nd, rfl⟩⟩
                refine ⟨_, rfl, ?_⟩
                refine hK.out _ _ trivial (fun hHeld => ?_)
                clear hK K
                refine norm_ (a' := ?_) ?_ ?_
                rotate_left
                ·show Act.put _ (some 47) _ = _
                 simp only [Act.put, List.setIfInBounds_toArray, List.set_cons_zero, List.set_cons_succ, i64_w, i32_w]
                 rfl
                refine pa 9 (bq 12 10) (some 48) ?_
                refine one_ (i := 10) (N := some 49) (bq 12 11) rfl rfl (one_of HT_.out (by kernel_rfl)) (by decide) (fun K hK => ?_)
                refine goes_ Tryz.func34 (by kernel_rfl) rfl #[.agg #[.int .i64 t348, .int .i64 t349, .int .i64 t350]] (by rfl) rfl rfl ev_ ?_
                with_reducible refine (fuseeref08_Seconds.calls kj1 t348 t349 t350 t351 _ A28.out).mono ?_
                rintro e w52 ⟨rfl, hb⟩
                refine ⟨_, rfl, ?_⟩
                have n0_ := Aside0.mk (blk_below (g := gb347) (o := .cells #[.int .i64 t343, .int .i64 t344, .int .i64 t345] 23 (0, 0)) bk_ hb); have n1_ := bs_ hb; clear BK347; clear HB; have BK347 := n0_; have HB := n1_; clear n0_ n1_
                (try clear hb)
                (try clear hb2)
                (try clear hk)
                (try clear hi)
                refine hK.out _ _ trivial (fun hHeld => ?_)
                clear hK K
                refine norm_ (a' := ?_) ?_ ?_
                rotate_left
                ·show Act.put _ (some 49) _ = _
                 simp only [Act.put, List.setIfInBounds_toArray, List.set_cons_zero, List.set_cons_succ, i64_w, i32_w]
                 rfl
                refine pa 11 (bq 12 12) (some 8) ?_
                refine done_ (done_of HT_.out (by kernel_rfl)) ?_
                try go_wp2_with (first | ((with_reducible refine gate_callee (f := 98) rfl ?_); refine gc_ (some 52) Tryz.func98 (fuseeref07_Digits.calls kj1 (a0.extract 20 a0.size) t352 _ A30.out) ?_; rintro e w' ⟨rfl, ⟨nd, rfl⟩⟩; refine ⟨_, rfl, ?_⟩; have hcz53_0 : w52.cell? ⟨gb347, 0, none⟩ = some (.int .i64 t343) := (blk_cell BK347.out 0).trans rfl; have hcz53_1 : w52.cell? ⟨gb347, 1, none⟩ = some (.int .i64 t344) := (blk_cell BK347.out 1).trans rfl; have hcz53_2 : w52.cell? ⟨gb347, 2, none⟩ = some (.int .i64 t345) := (blk_cell BK347.out 2).trans rfl; have hfz53_0 := blk_frozen BK347.out 0; have hfz53_1 := blk_frozen BK347.out 1; have hfz53_2 := blk_frozen BK347.out 2) | ((with_reducible refine gate_callee (f := 24) rfl ?_); refine gd_ (some 64) Tryz.func24 (fuseeref07_Days.calls kj1 t343 t344 t345 t353 _ A46.out) ?_; intro w54 hb; replace BK347 := bb_ BK347.out hb; replace HB := bs_ hb))
                refine bodyPost_ret (results_list (rs := [.tmp 2, .tmp 3, .tmp 4, .tmp 5]) rfl (by simp) (.tmp (.tmp (.tmp (.tmp .nil))))) rfl ?_
                exact en_
             ·rw [if_neg c31] at H; have c31b0 : (t346 == 0) = false := beq_eq_false_iff_ne.mpr c31; have c31b1 : (t346 != 0) = true := bne_iff_ne.mpr c31; simp only [Option.some.injEq, Prod.mk.injEq] at H; obtain ⟨rfl, rfl, rfl, rfl⟩ := H
              try go_wp2_with (first | ((with_reducible refine gate_callee (f := 28) rfl ?_); refine gd_ (some 36) Tryz.func28 (fuseeref07_Parse.calls kj1 (a0.extract 0 10) t343 t344 t345 t346 _ A18.out) ?_; intro w55 hb; replace HB := bs_ hb; (try clear hb)) | ((with_reducible refine gate_dst (N := 6) rfl ?_); refine be_ (N := 6) (cs := #[.int .i64 0, .int .i64 0, .int .i64 0]) (t := 23) ?_; intro gb347 hg w56 hbox hb; have BK347 := Aside0.mk hbox; have GW347 := Aside0.mk (sz_ hg : w.heap.size ≤ gb347); have GE347 := GW347; replace HB := bs_ hb; clear hb hbox hg; have hcz57_0 : w56.cell? ⟨gb347, 0, none⟩ = some (.int .i64 0) := (blk_cell BK347.out 0).trans rfl; have hcz57_1 : w56.cell? ⟨gb347, 1, none⟩ = some (.int .i64 0) := (blk_cell BK347.out 1).trans rfl; have hcz57_2 : w56.cell? ⟨gb347, 2, none⟩ = some (.int .i64 0) := (blk_cell BK347.out 2).trans rfl; have hfz57_0 := blk_frozen BK347.out 0; have hfz57_1 := blk_frozen BK347.out 1; have hfz57_2 := blk_frozen BK347.out 2))
              have n0_ : Aside0 ((((w56.setCell ⟨gb347, 0, none⟩ (.int .i64 t343)).setCell ⟨gb347, 1, none⟩ (.int .i64 t344)).setCell ⟨gb347, 2, none⟩ (.int .i64 t345)).heap[gb347]? = some (.cells #[.int .i64 t343, .int .i64 t344, .int .i64 t345] 23 (0, 0))) := ⟨by (with_reducible repeat first | apply blk_drewN | apply blk_drew | apply blk_alloc); refine blk_put (cs := #[.int .i64 t343, .int .i64 t344, .int .i64 0]) ?_ 2 _ rfl; (with_reducible repeat first | apply blk_drewN | apply blk_drew | apply blk_alloc); refine blk_put (cs := #[.int .i64 t343, .int .i64 0, .int .i64 0]) ?_ 1 _ rfl; (with_reducible repeat first | apply blk_drewN | apply blk_drew | apply blk_alloc); refine blk_put (cs := #[.int .i64 0, .int .i64 0, .int .i64 0]) ?_ 0 _ rfl; (with_reducible repeat first | apply blk_drewN | apply blk_drew | apply blk_alloc); exact BK347.out⟩
              have n1_ : Aside0 (Below w.heap.size w (((w56.setCell ⟨gb347, 0, none⟩ (.int .i64 t343)).setCell ⟨gb347, 1, none⟩ (.int .i64 t344)).setCell ⟨gb347, 2, none⟩ (.int .i64 t345))) := ⟨bl_⟩
              (try clear BK347)
              (try clear HB)
              generalize (((w56.setCell ⟨gb347, 0, none⟩ (.int .i64 t343)).setCell ⟨gb347, 1, none⟩ (.int .i64 t344)).setCell ⟨gb347, 2, none⟩ (.int .i64 t345)) = w58 at n0_ n1_ ⊢
              have BK347 := n0_; have HB := n1_; clear n0_ n1_; have n0_ := Aside0.mk (blk_drew BK347.out); have n1_ := Aside0.mk (below_drew1 HB.out); clear BK347; clear HB; have BK347 := n0_; have HB := n1_; clear n0_ n1_
              refine start_ (n := 12) (S := fun w' => True) (ds := []) (bq 12 0) (by kernel_rfl) rfl (by kernel_rfl) trivial (fun hHeld => ?_); refine with_tabW fuseeref08_Parse.tab4 fuseeref08_Parse.bits4 (fun HT_ HW_ => ?_)
              generalize w58.drew = w59 at BK347 HB hHeld ⊢
              refine pa 0 (bq 12 1) (some 39) ?_; refine pa 1 (bq 12 2) (some 40) ?_; refine pa 3 (bs 12 11) (some 42) ?_; refine pa 4 (bs 12 27) (some 43) ?_; refine pa 6 (bs 12 91) (some 45) ?_; refine pa 7 (bs 12 219) (some 46) ?_
              refine one_ (i := 2) (N := some 41) (bs 12 223) rfl rfl (one_of HT_.out (by kernel_rfl)) (by decide) (fun K hK => ?_)
              refine goes_ Tryz.func98 (by kernel_rfl) rfl #[.string (a0.extract 11 13)] (by rfl) rfl rfl ev_ ?_
              with_reducible refine (fuseeref07_Digits.calls kj1 (a0.extract 11 13) t348 _ A21.out).mono ?_
              rintro e w' ⟨rfl, ⟨nd, rfl⟩⟩
              refine ⟨_, rfl, ?_⟩
              refine hK.out _ _ trivial (fun hHeld => ?_)
              clear hK K
              refine norm_ (a' := ?_) ?_ ?_
              rotate_left
              ·show Act.put _ (some 41) _ = _
               simp only [Act.put, List.setIfInBounds_toArray, List.set_cons_zero, List.set_cons_succ, i64_w, i32_w]
               rfl
              refine one_ (i := 5) (N := some 44) (bq 12 8) rfl rfl (one_of HT_.out (by kernel_rfl)) (by decide) (fun K hK => ?_)
              refine goes_ Tryz.func98 (by kernel_rfl) rfl #[.string (a0.extract 14 16)] (by rfl) rfl rfl ev_ ?_
              with_reducible refine (fuseeref07_Digits.calls kj1 (a0.extract 14 16) t349 _ A24.out).mono ?_
              rintro e w' ⟨rfl, ⟨nd, rfl⟩⟩
              refine ⟨_, rfl, ?_⟩
              refine hK.out _ _ trivial (fun hHeld => ?_)
              clear hK K
              refine norm_ (a' := ?_) ?_ ?_
              rotate_left
              ·show Act.put _ (some 44) _ = _
               simp only [Act.put, List.setIfInBounds_toArray, List.set_cons_zero, List.set_cons_succ, i64_w, i32_w]
               rfl
              refine one_ (i := 8) (N := some 47) (bq 12 9) rfl rfl (one_of HT_.out (by kernel_rfl)) (by decide) (fun K hK => ?_)
              refine goes_ Tryz.func98 (by kernel_rfl) rfl #[.string (a0.extract 17 19)] (by rfl) rfl rfl ev_ ?_
              with_reducible refine (fuseeref07_Digits.calls kj1 (a0.extract 17 19) t350 _ A27.out).mono ?_
              rintro e w' ⟨rfl, ⟨nd, rfl⟩⟩
              refine ⟨_, rfl, ?_⟩
              refine hK.out _ _ trivial (fun hHeld => ?_)
              clear hK K
              refine norm_ (a' := ?_) ?_ ?_
              rotate_left
              ·show Act.put _ (some 47) _ = _
               simp only [Act.put, List.setIfInBounds_toArray, List.set_cons_zero, List.set_cons_succ, i64_w, i32_w]
               rfl
              refine pa 9 (bq 12 10) (some 48) ?_
              refine one_ (i := 10) (N := some 49) (bq 12 11) rfl rfl (one_of HT_.out (by kernel_rfl)) (by decide) (fun K hK => ?_)
              refine goes_ Tryz.func34 (by kernel_rfl) rfl #[.agg #[.int .i64 t348, .int .i64 t349, .int .i64 t350]] (by rfl) rfl rfl ev_ ?_
              with_reducible refine (fuseeref08_Seconds.calls kj1 t348 t349 t350 t351 _ A28.out).mono ?_
              rintro e w60 ⟨rfl, hb⟩
              refine ⟨_, rfl, ?_⟩
              have n0_ := Aside0.mk (blk_below (g := gb347) (o := .cells #[.int .i64 t343, .int .i64 t344, .int .i64 t345] 23 (0, 0)) bk_ hb); have n1_ := bs_ hb; clear BK347; clear HB; have BK347 := n0_; have HB := n1_; clear n0_ n1_
              (try clear hb)
              (try clear hb2)
              (try clear hk)
              (try clear hi)
              refine hK.out _ _ trivial (fun hHeld => ?_)
              clear hK K
              refine norm_ (a' := ?_) ?_ ?_
              rotate_left
              ·show Act.put _ (some 49) _ = _
               simp only [Act.put, List.setIfInBounds_toArray, List.set_cons_zero, List.set_cons_succ, i64_w, i32_w]
               rfl
              refine pa 11 (bq 12 12) (some 8) ?_
              refine done_ (done_of HT_.out (by kernel_rfl)) ?_
              try go_wp2_with (first | ((with_reducible refine gate_callee (f := 98) rfl ?_); refine gc_ (some 52) Tryz.func98 (fuseeref07_Digits.calls kj1 (a0.extract 20 a0.size) t352 _ A30.out) ?_; rintro e w' ⟨rfl, ⟨nd, rfl⟩⟩; refine ⟨_, rfl, ?_⟩))
              refine bodyPost_ret (results_list (rs := [.tmp 2, .tmp 3, .tmp 4, .tmp 5]) rfl (by simp) (.tmp (.tmp (.tmp (.tmp .nil))))) rfl ?_
              exact en_
            ·rw [if_neg c29] at H; exact absurd H (by simp)
           ·rw [if_neg c26] at H; exact absurd H (by simp)
          ·rw [if_neg c25] at H; exact absurd H (by simp)
         ·rw [if_neg c23] at H; exact absurd H (by simp)
        ·rw [if_neg c22] at H; exact absurd H (by simp)
       ·rw [if_neg c20] at H; exact absurd H (by simp)
      ·rw [if_neg c19] at H; exact absurd H (by simp)
     ·rw [if_neg c17] at H; exact absurd H (by simp)
    ·rw [if_neg c16] at H; exact absurd H (by simp)
end Go.Proofs.YtfjifhkgifefeaaGreatDoor.PA
end

section
/- What the printed daytime.Parse, and the document's Parse, answer of every text; the document's Stamp at wrong input. -/
namespace Go.Proofs.YtfjifhkgifefeaaGreatDoor.CivP
open Go.RowKit Go.Proofs.YtfjifhkgifefeaaGreatDoor.PA Go.Proofs.YtfjifhkgifefeaaGreatDoor.CivM Go.Proofs.YtfjifhkgifefeaaGreatDoor.StrM Go.Proofs.YtfjifhkgifefeaaGreatDoor.Giv Go.Proofs.YtfjifhkgifefeaaGreatDoorW.PrintWords
def IsStamp (l : List UInt8) (y m d sec nano : Int) : Prop := vld y m d ∧ 0 ≤ sec ∧ sec ≤ 86400 ∧ 0 ≤ nano ∧ nano ≤ 999999999 ∧ l = stext y m d sec nano
theorem dparse_no (k : Nat) (s : ByteArray) (hk : 5 ≤ k) (h : ∀ y m d sec nano, ¬ IsStamp s.data.toList y m d sec nano) : daytime_Parse.f k s = some (0, 0, 0, some 3) := by
  unfold daytime_Parse.f
  by_cases c : (s.size : Int) = 29
  rotate_left
  · rw [if_neg c]
  have z : ∀ i j, (s.extract i j).size ≤ 29 := fun i j => by rw [ByteArray.size_extract]; omega
  have N : ∀ i j, daytime_number.f (s.extract i j) = some (numberOf (s.extract i j).data.toList) := fun i j => by
    unfold daytime_number.f; rw [if_pos (by have := z i j; omega)]
  rw [if_pos c, if_pos (by omega), if_pos (by omega)]
  cases hd : dateOf (s.extract 0 10).data.toList with
  | none =>
    have P : civil_Parse.f (s.extract 0 10) = some (0, 0, 0, some 3) := by
      unfold civil_Parse.f; rw [if_pos (by have := z 0 10; omega), hd]
    rw [P]; simp
  | some t =>
    obtain ⟨y, m, d⟩ := t
    have P : civil_Parse.f (s.extract 0 10) = some (y, m, d, none) := by
      unfold civil_Parse.f; rw [if_pos (by have := z 0 10; omega), hd]
    obtain ⟨v, -, -⟩ := dateOf_some hd; rw [P]; simp only [Option.bind_some, Option.isNone_none, if_true]; rw [days k y m d (by omega), if_pos v]; simp only [Option.bind_some, Option.isNone_none, if_true, N]
    generalize numberOf (s.extract 11 13).data.toList = a
    generalize numberOf (s.extract 14 16).data.toList = b
    generalize numberOf (s.extract 17 19).data.toList = e
    generalize numberOf (s.extract 20 s.size).data.toList = nano
    rw [if_pos (by omega), if_pos (by omega), if_pos (by omega), if_pos (by omega), if_pos (by omega), if_pos (by omega), tseconds]
    by_cases tv : tvld a b e
    rotate_left
    · rw [if_neg tv]; simp
    rw [if_pos tv]; have tb := tsec_bd a b e tv; simp only [Option.bind_some, Option.isNone_none, if_true]; rw [if_pos (by omega)]
    by_cases nn : 0 ≤ nano ∧ nano ≤ 999999999
    · rw [dstamp_ok k y m d _ nano hk v tb.1 tb.2 nn.1 nn.2]; simp only [Option.bind_some, Option.isNone_none, if_true]; rw [if_neg]
      intro q
      rw [ByteArray.toList_eq, ByteArray.toList_eq] at q
      exact h y m d _ nano ⟨v, tb.1, tb.2, nn.1, nn.2, q.symm⟩
    · rw [dstamp_arg k _ _ _ (by omega) (fun x => nn ⟨x.2.2.1, x.2.2.2⟩)]; simp
theorem dig_step8 (k : Nat) (s : ByteArray) (x3 x4 : Int) (c : UInt8) (h0 : 0 ≤ x4) (h : x4 < (s.size : Int)) (hb : bt s x4 = c.toNat) (h3 : 0 ≤ x3) (h3' : x3 ≤ 100000000) (h4 : x4 ≤ 1000) :
    fuseeref07_Digits.l0 (k + 1) s x3 x4 = if dgt c = true then fuseeref07_Digits.l0 k s (10 * x3 + dv c) (x4 + 1) else some (-1) := by
  have hc : c.toNat < 256 := c.toNat_lt; simp only [fuseeref07_Digits.l0]; rw [if_pos h, if_pos h0, hb]
  by_cases hd : dgt c = true
  · rw [if_pos hd]; rw [dgt_iff] at hd; rw [if_neg (by omega), if_neg (by omega), if_neg (by omega)]
    have e : ((c.toNat : Int) - 48) % 256 = dv c := by unfold dv; omega
    have := dv_bd c (by rw [dgt_iff]; exact hd); rw [e, wid (x := 10 * x3) (by omega) (by omega), wid (by omega) (by omega), wid (by omega) (by omega)]
  · rw [if_neg hd]; rw [dgt_iff] at hd
    by_cases l : (c.toNat : Int) < 48
    · rw [if_pos l]
    · rw [if_neg l, if_pos (by omega)]
theorem bt_list (l1 l2 : List UInt8) (c : UInt8) : bt (⟨(l1 ++ c :: l2).toArray⟩ : ByteArray) (l1.length : Int) = c.toNat := by
  have h : (l1.length : Int).toNat < (⟨(l1 ++ c :: l2).toArray⟩ : ByteArray).size := by rw [ba_size]; simp
  rw [← bt_at _ _ h]
  show ((((l1 ++ c :: l2).toArray)[(l1.length : Int).toNat]'(by simp)).toNat : Int) = _
  simp
theorem rdigs_go : ∀ (l2 l1 : List UInt8) (k : Nat), l1.all dgt = true → l1.length + l2.length ≤ 9 → l2.length + 1 ≤ k →
    fuseeref07_Digits.l0 k ⟨(l1 ++ l2).toArray⟩ (decv l1) (l1.length : Int) = some (if l2.all dgt = true then decv (l1 ++ l2) else -1) := by
  intro l2
  induction l2 with
  | nil =>
    intro l1 k h1 hl hk
    obtain ⟨k, rfl⟩ : ∃ j, k = j + 1 := ⟨k - 1, by omega⟩
    rw [dig_end _ _ _ _ (by rw [ba_size]; simp)]
    simp
  | cons c l2 ih =>
    intro l1 k h1 hl hk
    obtain ⟨k, rfl⟩ : ∃ j, k = j + 1 := ⟨k - 1, by omega⟩
    have hb := decv_bd l1 h1
    have hp : (10 : Int) ^ l1.length ≤ 100000000 := by
      have := Nat.pow_le_pow_right (n := 10) (by omega) (show l1.length ≤ 8 by simp at hl; omega)
      have e : ((10 ^ l1.length : Nat) : Int) = (10 : Int) ^ l1.length := by simp
      have e2 : (10 : Nat) ^ 8 = 100000000 := by decide
      omega
    rw [dig_step8 k _ _ _ c (by omega) (by rw [ba_size]; simp; omega) (bt_list l1 l2 c) hb.1 (by omega) (by simp at hl; omega)]
    by_cases hd : dgt c = true
    · rw [if_pos hd]; have h := ih (l1 ++ [c]) k (by simp [hd]; simpa using h1) (by simp at hl ⊢; omega) (by simp at hk; omega); rw [decv_snoc, List.append_assoc] at h
      have e : ((l1 ++ [c]).length : Int) = (l1.length : Int) + 1 := by simp
      rw [e] at h; rw [show l1 ++ c :: l2 = l1 ++ ([c] ++ l2) from rfl, h]
      simp [hd]
    · rw [if_neg hd]; simp [hd]
theorem rdigs (k : Nat) (s : ByteArray) (hk : 10 ≤ k) (hs : s.size ≤ 9) : fuseeref07_Digits.f k s = some (if s.data.toList.all dgt = true then decv s.data.toList else -1) := by
  unfold fuseeref07_Digits.f
  obtain ⟨⟨l⟩⟩ := s; have hl : l.length ≤ 9 := hs; have h := rdigs_go l [] k rfl (by simpa using hl) (by omega)
  exact h
theorem rstamp_arg (k : Nat) (day sec nano : Int) (hk : 2 ≤ k) (h : ¬ (0 ≤ sec ∧ sec ≤ 86400 ∧ 0 ≤ nano ∧ nano ≤ 999999999)) : fuseeref08_Stamp.f k day sec nano = some (⟨#[]⟩, 1) := by
  obtain ⟨k, rfl⟩ : ∃ j, k = j + 1 := ⟨k - 1, by omega⟩
  unfold fuseeref08_Stamp.f
  have J : fuseeref08_Stamp.j0 (k + 1) day sec nano true = some (⟨#[]⟩, 1) := by simp [fuseeref08_Stamp.j0]
  by_cases a : sec < 0
  · rw [if_pos a]; exact J
  by_cases b : sec > 86400
  · rw [if_neg a, if_pos b]; exact J
  by_cases c : nano < 0
  · rw [if_neg a, if_neg b, if_pos c]; exact J
  · rw [if_neg a, if_neg b, if_neg c, decide_eq_true (by omega : nano > 999999999)]; exact J
theorem rstamp_day (k : Nat) (day sec nano : Int) (hk : 5 ≤ k) (hd : day < -719162 ∨ 2932896 < day) (s0 : 0 ≤ sec) (s1 : sec ≤ 86400) (n0 : 0 ≤ nano) (n1 : nano ≤ 999999999) : fuseeref08_Stamp.f k day sec nano = some (⟨#[]⟩, 2) := by
  obtain ⟨k, rfl⟩ : ∃ j, k = j + 1 := ⟨k - 1, by omega⟩
  unfold fuseeref08_Stamp.f
  rw [if_neg (by omega), if_neg (by omega), if_neg (by omega), decide_eq_false (by omega : ¬ nano > 999999999)]; simp only [fuseeref08_Stamp.j0, Bool.false_eq_true, if_false]; rw [rof_no k day (by omega) hd]
  simp
end Go.Proofs.YtfjifhkgifefeaaGreatDoor.CivP
end

section
/- The document's Parse of chapter 8, of every text; and that the program's Parse answers alike. -/
namespace Go.Proofs.YtfjifhkgifefeaaGreatDoor.CivP
open Go.RowKit Go.Proofs.YtfjifhkgifefeaaGreatDoor.PA Go.Proofs.YtfjifhkgifefeaaGreatDoor.CivM Go.Proofs.YtfjifhkgifefeaaGreatDoor.StrM Go.Proofs.YtfjifhkgifefeaaGreatDoor.Giv Go.Proofs.YtfjifhkgifefeaaGreatDoorW.PrintWords
theorem bt_eq (l l1 l2 : List UInt8) (c : UInt8) (h : l = l1 ++ c :: l2) (i : Int) (hi : i = l1.length) : bt (⟨l.toArray⟩ : ByteArray) i = c.toNat := by
  subst h hi; exact bt_list l1 l2 c
theorem split29 (l : List UInt8) (h : l.length = 29) : ∃ (e0 e1 e2 e3 e4 : List UInt8) (a b c d : UInt8), l = e0 ++ a :: (e1 ++ b :: (e2 ++ c :: (e3 ++ d :: e4))) ∧ e0.length = 10 ∧ e1.length = 2 ∧ e2.length = 2 ∧ e3.length = 2 ∧ e4.length = 9 := by
  match l, h with
  | [x0, x1, x2, x3, x4, x5, x6, x7, x8, x9, x10, x11, x12, x13, x14, x15, x16, x17, x18, x19, x20, x21, x22, x23, x24, x25, x26, x27, x28], _ =>
    exact ⟨[x0, x1, x2, x3, x4, x5, x6, x7, x8, x9], [x11, x12], [x14, x15], [x17, x18], [x20, x21, x22, x23, x24, x25, x26, x27, x28], x10, x13, x16, x19, rfl, rfl, rfl, rfl, rfl, rfl⟩
def rd (l : List UInt8) : Int := if l.all dgt = true then decv l else -1
theorem rd_digs (w : Nat) (n : Int) (h0 : 0 ≤ n) (h1 : n < 10 ^ w) : rd (digs w n) = n := by
  unfold rd; rw [if_pos (digs_all w n h0), decv_digs w n h0 h1]
theorem digs_rd (l : List UInt8) (h : 0 ≤ rd l) : digs l.length (rd l) = l := by
  unfold rd at *
  by_cases c : l.all dgt = true
  · rw [if_pos c]; exact digs_decv l c
  · rw [if_neg c] at h; omega
theorem rd_bd (l : List UInt8) (w : Nat) (h : l.length = w) : rd l < 10 ^ w := by
  unfold rd
  subst h
  by_cases c : l.all dgt = true
  · rw [if_pos c]; exact (decv_bd l c).2
  · rw [if_neg c]; have : (0 : Int) < 10 ^ l.length := Int.pow_pos (by omega)
    omega
theorem rparse_sep (k : Nat) (e0 e1 e2 e3 e4 : List UInt8) (a b c d : UInt8) (hk : 2 ≤ k) (l0 : e0.length = 10) (l1 : e1.length = 2) (l2 : e2.length = 2) (l3 : e3.length = 2) (l4 : e4.length = 9) :
    fuseeref08_Parse.f k ⟨(e0 ++ a :: (e1 ++ b :: (e2 ++ c :: (e3 ++ d :: e4)))).toArray⟩ = fuseeref08_Parse.j0 k ⟨(e0 ++ a :: (e1 ++ b :: (e2 ++ c :: (e3 ++ d :: e4)))).toArray⟩ (!(decide (a = 84 ∧ b = 58 ∧ c = 58 ∧ d = 46))) := by
  have hs : (⟨(e0 ++ a :: (e1 ++ b :: (e2 ++ c :: (e3 ++ d :: e4)))).toArray⟩ : ByteArray).size = 29 := by rw [ba_size]; simp [l0, l1, l2, l3, l4]
  have b10 := bt_eq (e0 ++ a :: (e1 ++ b :: (e2 ++ c :: (e3 ++ d :: e4)))) e0 _ a rfl 10 (by simp [l0]); have b13 := bt_eq (e0 ++ a :: (e1 ++ b :: (e2 ++ c :: (e3 ++ d :: e4)))) (e0 ++ a :: e1) _ b (by simp; rfl) 13 (by simp [l0, l1]); have b16 := bt_eq (e0 ++ a :: (e1 ++ b :: (e2 ++ c :: (e3 ++ d :: e4)))) (e0 ++ a :: e1 ++ b :: e2) _ c (by simp; rfl) 16 (by simp [l0, l1, l2]); have b19 := bt_eq (e0 ++ a :: (e1 ++ b :: (e2 ++ c :: (e3 ++ d :: e4)))) (e0 ++ a :: e1 ++ b :: e2 ++ c :: e3) e4 d (by simp) 19 (by simp [l0, l1, l2, l3])
  have cc : ∀ (x : UInt8) (n : Nat), n < 256 → (((x.toNat : Int) = (n : Int)) ↔ (x = UInt8.ofNat n)) := fun x n hn => by
    constructor
    · intro e; have : x.toNat = n := by omega
      rw [← this]; simp
    · intro e; rw [e]; simp; omega
  have a84 : (a.toNat : Int) = 84 ↔ a = 84 := cc a 84 (by omega); have b58 : (b.toNat : Int) = 58 ↔ b = 58 := cc b 58 (by omega); have c58 : (c.toNat : Int) = 58 ↔ c = 58 := cc c 58 (by omega); have d46 : (d.toNat : Int) = 46 ↔ d = 46 := cc d 46 (by omega)
  unfold fuseeref08_Parse.f
  rw [hs, b10, b13, b16, b19, if_pos (show ((29 : Nat) : Int) = 29 from rfl), if_pos (show (10 : Int) < ((29 : Nat) : Int) by omega), if_pos (show (13 : Int) < ((29 : Nat) : Int) by omega), if_pos (show (16 : Int) < ((29 : Nat) : Int) by omega), if_pos (show (19 : Int) < ((29 : Nat) : Int) by omega)]
  by_cases ha : a = 84
  rotate_left
  · rw [if_neg (fun x => ha (a84.1 x)), decide_eq_false (fun x => ha x.1)]; rfl
  rw [if_pos (a84.2 ha)]
  by_cases hb : b = 58
  rotate_left
  · rw [if_neg (fun x => hb (b58.1 x)), decide_eq_false (fun x => hb x.2.1)]; rfl
  rw [if_pos (b58.2 hb)]
  by_cases hc : c = 58
  rotate_left
  · rw [if_neg (fun x => hc (c58.1 x)), decide_eq_false (fun x => hc x.2.2.1)]; rfl
  rw [if_pos (c58.2 hc)]
  by_cases hd : d = 46
  · rw [decide_eq_true ⟨ha, hb, hc, hd⟩, d46.2 hd]; rfl
  · rw [decide_eq_false (fun x => hd x.2.2.2)]
    have : ((d.toNat : Int) != 46) = true := by rw [bne_iff_ne]; exact fun x => hd (d46.1 x)
    rw [this]; rfl
theorem rparse_parts (k : Nat) (e0 e1 e2 e3 e4 : List UInt8) (hk : 20010 ≤ k) (l0 : e0.length = 10) (l1 : e1.length = 2) (l2 : e2.length = 2) (l3 : e3.length = 2) (l4 : e4.length = 9) :
    (∃ y m d, dateOf e0 = some (y, m, d) ∧ tvld (rd e1) (rd e2) (rd e3) ∧ 0 ≤ rd e4 ∧ fuseeref08_Parse.f k ⟨(e0 ++ 84 :: (e1 ++ 58 :: (e2 ++ 58 :: (e3 ++ 46 :: e4)))).toArray⟩ = some (num y m d, tsec (rd e1) (rd e2) (rd e3), rd e4, 0))
    ∨ ((∀ y m d, ¬ (dateOf e0 = some (y, m, d) ∧ tvld (rd e1) (rd e2) (rd e3) ∧ 0 ≤ rd e4)) ∧ fuseeref08_Parse.f k ⟨(e0 ++ 84 :: (e1 ++ 58 :: (e2 ++ 58 :: (e3 ++ 46 :: e4)))).toArray⟩ = some (0, 0, 0, 3)) := by
  rw [rparse_sep k e0 e1 e2 e3 e4 84 58 58 46 (by omega) l0 l1 l2 l3 l4, decide_eq_true ⟨rfl, rfl, rfl, rfl⟩]
  obtain ⟨k, rfl⟩ : ∃ j, k = j + 1 := ⟨k - 1, by omega⟩
  have hs : (⟨(e0 ++ 84 :: (e1 ++ 58 :: (e2 ++ 58 :: (e3 ++ 46 :: e4)))).toArray⟩ : ByteArray).size = 29 := by rw [ba_size]; simp [l0, l1, l2, l3, l4]
  have x0 := ext_eq (e0 ++ 84 :: (e1 ++ 58 :: (e2 ++ 58 :: (e3 ++ 46 :: e4)))) [] e0 _ rfl 0 10 (by simp) (by simp [l0]); have x1 := ext_eq (e0 ++ 84 :: (e1 ++ 58 :: (e2 ++ 58 :: (e3 ++ 46 :: e4)))) (e0 ++ [84]) e1 (58 :: (e2 ++ 58 :: (e3 ++ 46 :: e4))) (by simp) 11 13 (by simp [l0]) (by simp [l0, l1]); have x2 := ext_eq (e0 ++ 84 :: (e1 ++ 58 :: (e2 ++ 58 :: (e3 ++ 46 :: e4)))) (e0 ++ 84 :: e1 ++ [58]) e2 (58 :: (e3 ++ 46 :: e4)) (by simp) 14 16 (by simp [l0, l1]) (by simp [l0, l1, l2]); have x3 := ext_eq (e0 ++ 84 :: (e1 ++ 58 :: (e2 ++ 58 :: (e3 ++ 46 :: e4)))) (e0 ++ 84 :: e1 ++ 58 :: e2 ++ [58]) e3 (46 :: e4) (by simp) 17 19 (by simp [l0, l1, l2]) (by simp [l0, l1, l2, l3]); have x4 := ext_eq (e0 ++ 84 :: (e1 ++ 58 :: (e2 ++ 58 :: (e3 ++ 46 :: e4)))) (e0 ++ 84 :: e1 ++ 58 :: e2 ++ 58 :: e3 ++ [46]) e4 [] (by simp) 20 29 (by simp [l0, l1, l2, l3]) (by simp [l0, l1, l2, l3, l4])
  have R : ∀ e : List UInt8, e.length ≤ 9 → fuseeref07_Digits.f k ⟨e.toArray⟩ = some (rd e) := fun e he => by
    rw [rdigs k _ (by omega) (by rw [ba_size]; exact he)]; rfl
  simp only [fuseeref08_Parse.j0, Bool.not_true, Bool.false_eq_true, if_false]; rw [hs, x0, x1, x2, x3, x4, R e1 (by omega), R e2 (by omega), R e3 (by omega), R e4 (by omega), rparse k _ (by omega)]; simp only [Option.bind_some]; rw [rseconds k _ _ _ (by omega)]; simp only [Option.bind_some]; rw [if_pos (by omega), if_pos (by omega), if_pos (by omega), if_pos (by omega), if_pos (by omega), if_pos (by omega), if_pos (by omega), if_pos (by omega), if_pos (by omega)]
  cases hd : dateOf e0 with
  | none => exact .inr ⟨fun y m d c => by simp at c, by simp⟩
  | some t =>
    obtain ⟨y, m, d⟩ := t; obtain ⟨v, -, -⟩ := dateOf_some hd; simp only [if_true]
    by_cases tv : tvld (rd e1) (rd e2) (rd e3)
    · have tb := tsec_bd _ _ _ tv; rw [if_pos tv, if_neg (by omega : ¬ tsec (rd e1) (rd e2) (rd e3) < 0)]
      by_cases nn : 0 ≤ rd e4
      · rw [if_neg (by omega : ¬ rd e4 < 0), rdays k y m d v (by omega)]
        exact .inl ⟨y, m, d, rfl, tv, nn, rfl⟩
      · rw [if_pos (by omega : rd e4 < 0)]
        exact .inr ⟨fun _ _ _ c => nn c.2.2, rfl⟩
    · rw [if_neg tv, if_pos (by omega : (-1 : Int) < 0)]
      exact .inr ⟨fun _ _ _ c => tv c.2.1, rfl⟩
/-- Both Parses answer alike, of every text. -/
theorem parse_alike (k : Nat) (s : ByteArray) (hk : 20010 ≤ k) : ∃ a b c r q, daytime_Parse.f k s = some (a, b, c, r) ∧ fuseeref08_Parse.f k s = some (a, b, c, q) ∧ r.getD 0 = q := by
  obtain ⟨⟨l⟩⟩ := s
  by_cases hl : l.length = 29
  rotate_left
  · refine ⟨0, 0, 0, some 3, 3, dparse_no k _ (by omega) ?_, ?_, rfl⟩
    · intro y m d sec nano h
      have := congrArg List.length h.2.2.2.2.2; rw [stext_len h.1] at this
      exact hl this
    · obtain ⟨k, rfl⟩ : ∃ j, k = j + 1 := ⟨k - 1, by omega⟩
      unfold fuseeref08_Parse.f
      have hs : (⟨⟨l⟩⟩ : ByteArray).size = l.length := rfl; rw [hs, if_neg (by omega)]
      simp [fuseeref08_Parse.j0]
  · obtain ⟨e0, e1, e2, e3, e4, a, b, c, d, rfl, l0, l1, l2, l3, l4⟩ := split29 l hl
    by_cases hc : a = 84 ∧ b = 58 ∧ c = 58 ∧ d = 46
    · obtain ⟨rfl, rfl, rfl, rfl⟩ := hc
      rcases rparse_parts k e0 e1 e2 e3 e4 hk l0 l1 l2 l3 l4 with ⟨y, m, d, hd, tv, nn, hr⟩ | ⟨hno, hr⟩
      · obtain ⟨v, hdt, -⟩ := dateOf_some hd; have tb := tsec_bd _ _ _ tv; obtain ⟨t1, t2, t3⟩ := tod_bd _ _ _ tv; have nb := rd_bd e4 9 l4
        have es : e0 ++ 84 :: (e1 ++ 58 :: (e2 ++ 58 :: (e3 ++ 46 :: e4))) = stext y m d (tsec (rd e1) (rd e2) (rd e3)) (rd e4) := by
          have g1 := digs_rd e1 t1.1; have g2 := digs_rd e2 t2.1; have g3 := digs_rd e3 t3.1; have g4 := digs_rd e4 nn; rw [l1] at g1; rw [l2] at g2; rw [l3] at g3; rw [l4] at g4
          unfold stext
          rw [tod_tsec _ _ _ tv]; simp only [g1, g2, g3, g4, hdt]
        have hp := dparse_ok k y m d _ (rd e4) (by omega) v tb.1 tb.2 nn (by omega); rw [← es] at hp
        exact ⟨_, _, _, none, 0, hp, hr, rfl⟩
      · refine ⟨0, 0, 0, some 3, 3, dparse_no k _ (by omega) ?_, hr, rfl⟩
        intro y m d sec nano h
        obtain ⟨v, s0, s1, n0, n1, e⟩ := h; have e' : e0 ++ 84 :: (e1 ++ 58 :: (e2 ++ 58 :: (e3 ++ 46 :: e4))) = stext y m d sec nano := e
        unfold stext at e'
        obtain ⟨q0, e'⟩ := List.append_inj e' (by rw [l0, dtext_len v]); simp only [List.cons.injEq, true_and] at e'; obtain ⟨q1, e'⟩ := List.append_inj e' (by rw [l1, digs_len]); simp only [List.cons.injEq, true_and] at e'; obtain ⟨q2, e'⟩ := List.append_inj e' (by rw [l2, digs_len]); simp only [List.cons.injEq, true_and] at e'; obtain ⟨q3, e'⟩ := List.append_inj e' (by rw [l3, digs_len]); simp only [List.cons.injEq, true_and] at e'; have tv := tod_vld sec s0 s1; obtain ⟨b1, b2, b3⟩ := tod_bd _ _ _ tv
        have r1 : rd e1 = (tod sec).1 := by rw [q1]; exact rd_digs 2 _ b1.1 (by show _ < (100 : Int); omega)
        have r2 : rd e2 = (tod sec).2.1 := by rw [q2]; exact rd_digs 2 _ b2.1 (by show _ < (100 : Int); omega)
        have r3 : rd e3 = (tod sec).2.2 := by rw [q3]; exact rd_digs 2 _ b3.1 (by show _ < (100 : Int); omega)
        have r4 : rd e4 = nano := by rw [e']; exact rd_digs 9 _ n0 (by show _ < (1000000000 : Int); omega)
        refine hno y m d ⟨?_, ?_, ?_⟩
        · rw [q0, dateOf_dtext v]
        · rw [r1, r2, r3]; exact tv
        · rw [r4]; exact n0
    · refine ⟨0, 0, 0, some 3, 3, dparse_no k _ (by omega) ?_, ?_, rfl⟩
      · intro y m d' sec nano h
        obtain ⟨v, s0, s1, n0, n1, e⟩ := h; have e' : e0 ++ a :: (e1 ++ b :: (e2 ++ c :: (e3 ++ d :: e4))) = stext y m d' sec nano := e
        unfold stext at e'
        obtain ⟨q0, e'⟩ := List.append_inj e' (by rw [l0, dtext_len v]); simp only [List.cons.injEq] at e'; obtain ⟨ha, e'⟩ := e'; obtain ⟨q1, e'⟩ := List.append_inj e' (by rw [l1, digs_len]); simp only [List.cons.injEq] at e'; obtain ⟨hb, e'⟩ := e'; obtain ⟨q2, e'⟩ := List.append_inj e' (by rw [l2, digs_len]); simp only [List.cons.injEq] at e'; obtain ⟨hc', e'⟩ := e'; obtain ⟨q3, e'⟩ := List.append_inj e' (by rw [l3, digs_len]); simp only [List.cons.injEq] at e'
        exact hc ⟨ha, hb, hc', e'.1⟩
      · have := rparse_sep k e0 e1 e2 e3 e4 a b c d (by omega) l0 l1 l2 l3 l4
        obtain ⟨k, rfl⟩ : ∃ j, k = j + 1 := ⟨k - 1, by omega⟩
        rw [decide_eq_false hc] at this
        refine this.trans ?_
        simp [fuseeref08_Parse.j0]
end Go.Proofs.YtfjifhkgifefeaaGreatDoor.CivP
end

section
/- The order of stamps: of two stamps the later one is the greater text (plain Lean). -/
namespace Go.Proofs.YtfjifhkgifefeaaGreatDoor.CivP
open Go.RowKit Go.Proofs.YtfjifhkgifefeaaGreatDoor.CivM Go.Proofs.YtfjifhkgifefeaaGreatDoor.StrM
theorem lt_app : ∀ (a b c d : List UInt8), a.length = b.length → (a ++ c < b ++ d ↔ a < b ∨ (a = b ∧ c < d)) := by
  intro a
  induction a with
  | nil =>
    intro b c d h
    have : b = [] := List.length_eq_zero_iff.mp (by simpa using h.symm); subst this
    simp
  | cons x a ih =>
    intro b c d h
    cases b with
    | nil => simp at h
    | cons y b =>
      simp only [List.cons_append, List.cons_lt_cons_iff, List.cons.injEq]; rw [ih b c d (by simpa using h)]; clear h
      constructor
      · rintro (h | ⟨rfl, h | ⟨rfl, h⟩⟩)
        · exact .inl (.inl h)
        · exact .inl (.inr ⟨rfl, h⟩)
        · exact .inr ⟨⟨rfl, rfl⟩, h⟩
      · rintro ((h | ⟨rfl, h⟩) | ⟨⟨rfl, rfl⟩, h⟩)
        · exact .inl h
        · exact .inr ⟨rfl, .inl h⟩
        · exact .inr ⟨rfl, .inr ⟨rfl, h⟩⟩
theorem dg_lt (a b : Int) (a0 : 0 ≤ a) (a9 : a ≤ 9) (b0 : 0 ≤ b) (b9 : b ≤ 9) : dg a < dg b ↔ a < b := by
  rw [UInt8.lt_iff_toNat_lt, dg_toNat a a0 a9, dg_toNat b b0 b9]; omega
theorem nil_lt (l : List UInt8) : ¬ (l < []) := by simp
theorem digs_inj (w : Nat) (n m : Int) (n0 : 0 ≤ n) (n1 : n < 10 ^ w) (m0 : 0 ≤ m) (m1 : m < 10 ^ w) (h : digs w n = digs w m) : n = m := by
  rw [← decv_digs w n n0 n1, h, decv_digs w m m0 m1]
theorem digs_lt (w : Nat) : ∀ n m : Int, 0 ≤ n → n < 10 ^ w → 0 ≤ m → m < 10 ^ w → (digs w n < digs w m ↔ n < m) := by
  induction w with
  | zero => intro n m n0 n1 m0 m1; simp at n1 m1; simp [digs]; omega
  | succ w ih =>
    intro n m n0 n1 m0 m1
    rw [Int.pow_succ] at n1 m1; simp only [digs]; rw [lt_app _ _ _ _ (by rw [digs_len, digs_len]), ih (n / 10) (m / 10) (by omega) (by omega) (by omega) (by omega)]
    have e : [dg (n % 10)] < [dg (m % 10)] ↔ n % 10 < m % 10 := by
      rw [List.cons_lt_cons_iff, dg_lt _ _ (by omega) (by omega) (by omega) (by omega)]
      constructor
      · rintro (h | ⟨-, h⟩)
        · exact h
        · exact absurd h (nil_lt _)
      · exact .inl
    rw [e]
    constructor
    · rintro (h | ⟨h, h2⟩)
      · omega
      · have := digs_inj w (n / 10) (m / 10) (by omega) (by omega) (by omega) (by omega) h
        omega
    · intro h
      by_cases q : n / 10 < m / 10
      · exact .inl q
      · have : n / 10 = m / 10 := by omega
        exact .inr ⟨by rw [this], by omega⟩
theorem cons_lt_same (x : UInt8) (a b : List UInt8) : (x :: a < x :: b) ↔ a < b := by
  rw [List.cons_lt_cons_iff]
  constructor
  · rintro (h | ⟨-, h⟩)
    · exact absurd h (UInt8.lt_irrefl x)
    · exact h
  · exact fun h => .inr ⟨rfl, h⟩
/-- One more part, behind a sign. -/
theorem part_lt (w : Nat) (x : UInt8) (n m : Int) (c d : List UInt8) (n0 : 0 ≤ n) (n1 : n < 10 ^ w) (m0 : 0 ≤ m) (m1 : m < 10 ^ w) :
    (digs w n ++ x :: c < digs w m ++ x :: d) ↔ n < m ∨ (n = m ∧ c < d) := by
  rw [lt_app _ _ _ _ (by rw [digs_len, digs_len]), digs_lt w n m n0 n1 m0 m1, cons_lt_same]
  constructor
  · rintro (h | ⟨h, h2⟩)
    · exact .inl h
    · exact .inr ⟨digs_inj w n m n0 n1 m0 m1 h, h2⟩
  · rintro (h | ⟨rfl, h⟩)
    · exact .inl h
    · exact .inr ⟨rfl, h⟩
theorem dtext_digs {y m d : Int} (v : vld y m d) : dtext y m d = digs 4 y ++ 45 :: (digs 2 m ++ 45 :: digs 2 d) := by
  obtain ⟨h1, h2, h3, h4, h5, h6⟩ := v; have hd := dim_bd y m
  unfold dtext
  rw [padded_eq 3 y (by omega) (by show y < (10000 : Int); omega), padded_eq 1 m (by omega) (by show m < (100 : Int); omega), padded_eq 1 d (by omega) (by show d < (100 : Int); omega)]
theorem num_lex {y m d y' m' d' : Int} (v : vld y m d) (v' : vld y' m' d') : (y < y' ∨ (y = y' ∧ (m < m' ∨ (m = m' ∧ d < d')))) ↔ num y m d < num y' m' d' := by
  have F : ∀ {y m d y' m' d' : Int}, vld y m d → vld y' m' d' → (y < y' ∨ (y = y' ∧ (m < m' ∨ (m = m' ∧ d < d')))) → num y m d < num y' m' d' := by
    intro y m d y' m' d' v v' h
    rcases h with h | ⟨rfl, h | ⟨rfl, h⟩⟩
    · exact num_lt_year v v' h
    · exact num_lt_month v v' h
    · unfold num; omega
  constructor
  · exact F v v'
  · intro h
    by_cases c : y' < y ∨ (y' = y ∧ (m' < m ∨ (m' = m ∧ d' < d)))
    · have := F v' v c; omega
    · by_cases e : y = y' ∧ m = m' ∧ d = d'
      · obtain ⟨rfl, rfl, rfl⟩ := e; omega
      · omega
theorem tod_lex (a b : Int) (a0 : 0 ≤ a) (a1 : a ≤ 86400) (b0 : 0 ≤ b) (b1 : b ≤ 86400) (P : Prop) :
    ((tod a).1 < (tod b).1 ∨ ((tod a).1 = (tod b).1 ∧ ((tod a).2.1 < (tod b).2.1 ∨ ((tod a).2.1 = (tod b).2.1 ∧ ((tod a).2.2 < (tod b).2.2 ∨ ((tod a).2.2 = (tod b).2.2 ∧ P)))))) ↔ a < b ∨ (a = b ∧ P) := by
  unfold tod
  by_cases ca : a = 86400 <;> by_cases cb : b = 86400
  · subst ca; subst cb; simp
  · rw [if_pos ca, if_neg cb]; simp only; subst ca
    constructor
    · rintro (h | ⟨h, h2 | ⟨h2, h3 | ⟨h3, h4⟩⟩⟩) <;> omega
    · rintro (h | ⟨h, -⟩) <;> omega
  · rw [if_neg ca, if_pos cb]; simp only; subst cb
    constructor
    · intro _; exact .inl (by omega)
    · intro _; omega
  · rw [if_neg ca, if_neg cb]; simp only
    by_cases p : P
    · simp only [p, and_true]; omega
    · simp only [p, and_false, or_false]; omega
theorem stext_lt {y m d y' m' d' s n s' n' : Int} (v : vld y m d) (v' : vld y' m' d') (s0 : 0 ≤ s) (s1 : s ≤ 86400) (n0 : 0 ≤ n) (n1 : n ≤ 999999999) (s0' : 0 ≤ s') (s1' : s' ≤ 86400) (n0' : 0 ≤ n') (n1' : n' ≤ 999999999) :
    stext y m d s n < stext y' m' d' s' n' ↔ num y m d < num y' m' d' ∨ (num y m d = num y' m' d' ∧ (s < s' ∨ (s = s' ∧ n < n'))) := by
  obtain ⟨b1, b2, b3⟩ := tod_bd _ _ _ (tod_vld s s0 s1); obtain ⟨c1, c2, c3⟩ := tod_bd _ _ _ (tod_vld s' s0' s1'); obtain ⟨h1, h2, h3, h4, h5, h6⟩ := id v; obtain ⟨g1, g2, g3, g4, g5, g6⟩ := id v'; have hd := dim_bd y m; have gd := dim_bd y' m'; have p2 : (10 : Int) ^ 2 = 100 := rfl; have p4 : (10 : Int) ^ 4 = 10000 := rfl; have p9 : (10 : Int) ^ 9 = 1000000000 := rfl
  unfold stext
  rw [lt_app _ _ _ _ (by rw [dtext_len v, dtext_len v']), cons_lt_same, part_lt 2 58 _ _ _ _ b1.1 (by omega) c1.1 (by omega), part_lt 2 58 _ _ _ _ b2.1 (by omega) c2.1 (by omega), part_lt 2 46 _ _ _ _ b3.1 (by omega) c3.1 (by omega), digs_lt 9 n n' n0 (by omega) n0' (by omega), tod_lex s s' s0 s1 s0' s1']
  have D : dtext y m d < dtext y' m' d' ↔ num y m d < num y' m' d' := by
    rw [dtext_digs v, dtext_digs v', part_lt 4 45 _ _ _ _ (by omega) (by omega) (by omega) (by omega), part_lt 2 45 _ _ _ _ (by omega) (by omega) (by omega) (by omega), digs_lt 2 d d' (by omega) (by omega) (by omega) (by omega)]
    exact num_lex v v'
  rw [D]
  have E : dtext y m d = dtext y' m' d' ↔ num y m d = num y' m' d' := by
    constructor
    · intro e
      have a := dateOf_dtext v; rw [e, dateOf_dtext v'] at a; simp only [Option.some.injEq, Prod.mk.injEq] at a; rw [a.1, a.2.1, a.2.2]
    · intro e
      obtain ⟨rfl, rfl, rfl⟩ := num_inj v v' e
      rfl
  rw [E]
theorem stext_inj {y m d y' m' d' s n s' n' : Int} (v : vld y m d) (v' : vld y' m' d') (s0 : 0 ≤ s) (s1 : s ≤ 86400) (n0 : 0 ≤ n) (n1 : n ≤ 999999999) (s0' : 0 ≤ s') (s1' : s' ≤ 86400) (n0' : 0 ≤ n') (n1' : n' ≤ 999999999) (h : stext y m d s n = stext y' m' d' s' n') :
    num y m d = num y' m' d' ∧ s = s' ∧ n = n' := by
  have a := dparse_ok 5 y m d s n (by omega) v s0 s1 n0 n1; rw [h, dparse_ok 5 y' m' d' s' n' (by omega) v' s0' s1' n0' n1'] at a; simp only [Option.some.injEq, Prod.mk.injEq, and_true] at a
  exact ⟨a.1.symm, a.2.1.symm, a.2.2.symm⟩
end Go.Proofs.YtfjifhkgifefeaaGreatDoor.CivP
end

section
/- Contracts of library functions in the form that the printed walks call: strings.Split, Cut, CutSuffix, TrimRight; strconv.ParseInt. -/
namespace Go.Proofs.YtfjifhkgifefeaaGreatDoor.Giv
open Go.RowKit Go.Proofs.YtfjifhkgifefeaaGreatDoor Go.Proofs.YtfjifhkgifefeaaGreatDoorW.PrintWords Go.Proofs.YtfjifhkgifefeaaGreatDoorW.PrintMore
theorem reps_map {α : Type} (enc : α → Value) (xs : List α) : Reps (fun x cs => cs = [enc x]) 1 xs (xs.map enc) := by
  refine ⟨by simp, fun j p h => ?_⟩
  obtain ⟨hj, rfl⟩ := List.getElem?_eq_some_iff.1 h; rw [Nat.mul_one, List.take_one, List.head?_drop]
  simp [hj]
/-- A new block of strings, as a row of the call's own. -/
theorem R_strings (w : World) (l : List ByteArray) (hl : l.length ≤ 9223372036854775807) :
    Kd.R Kd.string 9 (w.alloc (.cells (l.map Value.string).toArray 9)) w.heap.size (fun _ => True) (.slice (some ⟨w.heap.size, 0, none⟩) l.length l.length) l := by
  refine ⟨fun _ _ => trivial, l.map Value.string, ?_, reps_map Value.string l⟩
  have h := World.ownsRow_lit (base := w.heap.size) (e := 9) (size := 1) w (l.map Value.string).toArray l.length (Nat.le_refl _) (by simpa [maxLen] using hl) (by simp)
  have h2 : (w.alloc (.cells (l.map Value.string).toArray 9)).ownsRow w.heap.size 9 1 (.slice (some ⟨w.heap.size, 0, none⟩) l.length l.length) l.length (l.map Value.string) := by simpa using h
  exact h2
def strings_Split.f (a0 a1 : ByteArray) : Option (List ByteArray) := if a0.size < 4294967281 ∧ 1 ≤ a1.size ∧ (Lib.splitB a1 0 (Lib.countB a0 a1) a0).length ≤ 4294967296 then some (Lib.splitB a1 0 (Lib.countB a0 a1) a0) else none
theorem strings_Split.calls (a0 a1 : ByteArray) (r : List ByteArray) (w : World) (hl_ : Laid w) (h : strings_Split.f a0 a1 = some r) :
    Calls Tryz.prog 96 #[.string a0, .string a1] w fun e w' => ∃ v0_ : Value, e = .returned (v0_) ∧ Kd.R Kd.string 9 w' w.heap.size (fun _ => True) v0_ r ∧ Below w.heap.size w w' := by
  unfold strings_Split.f at h
  split at h
  · rename_i c
    obtain ⟨h0, h1, h2⟩ := c; have hr := Option.some.inj h
    refine (Tryz.strings_Split_shaped a0 a1 w hl_.shaped h0 h1).mono ?_
    rintro e w' ⟨rfl, rfl⟩
    have hc := Lib.splitB_all a1 h1 0 _ a0 rfl; rw [← hc, hr]
    exact ⟨_, rfl, R_strings w r (by rw [← hr]; omega), (Below.refl _ _).alloc (Nat.le_refl _) _⟩
  · cases h
def strconv_ParseInt.f (a0 : ByteArray) (a1 a2 : Int) : Option (Int × Option Int) :=
  if a1 = 10 ∧ (a2 = 64 ∨ a2 = 8) ∧ a0.size ≤ 281474976710656 then some (match Lib.parseIntB a2.toNat a0.data.toList with | .ok v => (v, none) | _ => (0, some 0)) else none
def PInt (v : Int) (r : Option Int) (e : Ending) : Prop := match r with
  | none => e = .returned (.tuple #[.int .i64 v, .nilIface])
  | some _ => ∃ u N, e = .returned (.tuple #[.int .i64 u, .iface 276 (.pointer (some ⟨N, 0, none⟩))])
theorem pint_bad8 (p : ByteArray) (hp : p.size ≤ 281474976710656) (h : ∀ v, Lib.parseIntB 8 p.data.toList ≠ .ok v) (w : World) (hl : Laid w) :
    Calls Tryz.prog 113 #[.string p, .int .i64 10, .int .i64 8] w fun e w' => ∃ u N, e = .returned (.tuple #[.int .i64 u, .iface 276 (.pointer (some ⟨N, 0, none⟩))]) ∧ Below w.heap.size w w' := by
  rcases hc : Lib.parseIntB 8 p.data.toList with v | _ | _
  · exact absurd hc (h v)
  · obtain ⟨tp, q, e⟩ := hl.syn
    refine (Any.strconv_ParseInt_10_at8_syntax Tryz.laysC174 p hp hc _ w e (.inr ⟨_, _, rfl⟩)).mono ?_
    rintro e w' ⟨N, rfl, -, -, hb⟩
    exact ⟨_, N, rfl, hb⟩
  · obtain ⟨tp, q, e⟩ := hl.rng
    refine (Tryz.strconv_ParseInt_10_at8_range p hp hc _ w e (.inr ⟨_, _, rfl⟩)).mono ?_
    rintro e w' ⟨N, rfl, -, -, hb⟩
    exact ⟨_, N, rfl, hb⟩
theorem pint_bad64 (p : ByteArray) (hp : p.size ≤ 281474976710656) (h : ∀ v, Lib.parseIntB 64 p.data.toList ≠ .ok v) (w : World) (hl : Laid w) :
    Calls Tryz.prog 113 #[.string p, .int .i64 10, .int .i64 64] w fun e w' => ∃ u N, e = .returned (.tuple #[.int .i64 u, .iface 276 (.pointer (some ⟨N, 0, none⟩))]) ∧ Below w.heap.size w w' := by
  rcases hc : Lib.parseIntB 64 p.data.toList with v | _ | _
  · exact absurd hc (h v)
  · obtain ⟨tp, q, e⟩ := hl.syn
    refine (Any.strconv_ParseInt_10_at64_syntax Tryz.laysC174 p hp hc _ w e (.inr ⟨_, _, rfl⟩)).mono ?_
    rintro e w' ⟨N, rfl, -, -, hb⟩
    exact ⟨_, N, rfl, hb⟩
  · obtain ⟨tp, q, e⟩ := hl.rng
    refine (Tryz.strconv_ParseInt_10_at64_range p hp hc _ w e (.inr ⟨_, _, rfl⟩)).mono ?_
    rintro e w' ⟨N, rfl, -, -, hb⟩
    exact ⟨_, N, rfl, hb⟩
theorem pint_ok64 (p : ByteArray) (hp : p.size ≤ 281474976710656) (v : Int) (h : Lib.parseIntB 64 p.data.toList = .ok v) (w : World) :
    Calls Tryz.prog 113 #[.string p, .int .i64 10, .int .i64 64] w fun e w' => e = .returned (.tuple #[.int .i64 v, .nilIface]) ∧ Below w.heap.size w w' := by
  refine (Tryz.strconv_ParseInt_10_at64_ok p (by omega) v h w).mono ?_
  rintro e w' ⟨rfl, rfl | ⟨t, rfl⟩⟩
  · exact ⟨rfl, Below.refl _ _⟩
  · exact ⟨rfl, Lib.bytesWorld_below _ _ _⟩
theorem pint_ok8 (p : ByteArray) (hp : p.size ≤ 281474976710656) (v : Int) (h : Lib.parseIntB 8 p.data.toList = .ok v) (w : World) :
    Calls Tryz.prog 113 #[.string p, .int .i64 10, .int .i64 8] w fun e w' => e = .returned (.tuple #[.int .i64 v, .nilIface]) ∧ Below w.heap.size w w' := by
  refine (Tryz.strconv_ParseInt_10_at8_ok p (by omega) v h w).mono ?_
  rintro e w' ⟨rfl, rfl | ⟨t, rfl⟩⟩
  · exact ⟨rfl, Below.refl _ _⟩
  · exact ⟨rfl, Lib.bytesWorld_below _ _ _⟩
theorem strconv_ParseInt.calls (a0 : ByteArray) (a1 a2 : Int) (r1 : Int) (r2 : Option Int) (w : World) (hl_ : Laid w) (h : strconv_ParseInt.f a0 a1 a2 = some (r1, r2)) :
    Calls Tryz.prog 113 #[.string a0, .int .i64 a1, .int .i64 a2] w fun e w' => PInt r1 r2 e ∧ Below w.heap.size w w' := by
  unfold strconv_ParseInt.f at h
  split at h
  · rename_i c
    obtain ⟨rfl, h1, h2⟩ := c; have hr := Option.some.inj h; clear h
    rcases h1 with rfl | rfl
    · by_cases c : ∃ v, Lib.parseIntB 64 a0.data.toList = .ok v
      · obtain ⟨v, hv⟩ := c; rw [show (64 : Int).toNat = 64 from rfl, hv] at hr; simp only [Prod.mk.injEq] at hr; obtain ⟨rfl, rfl⟩ := hr
        exact pint_ok64 a0 h2 v hv w
      · have c' : ∀ v, Lib.parseIntB 64 a0.data.toList ≠ .ok v := fun v e => c ⟨v, e⟩
        have e2 : ∃ q, r2 = some q := by
          rw [show (64 : Int).toNat = 64 from rfl] at hr
          revert hr
          rcases hq : Lib.parseIntB 64 a0.data.toList with v | _ | _
          · exact absurd hq (c' v)
          · intro hr; simp only [Prod.mk.injEq] at hr; exact ⟨0, hr.2.symm⟩
          · intro hr; simp only [Prod.mk.injEq] at hr; exact ⟨0, hr.2.symm⟩
        obtain ⟨q, rfl⟩ := e2
        refine (pint_bad64 a0 h2 c' w hl_).mono ?_
        rintro e w' ⟨u, N, rfl, hb⟩
        exact ⟨⟨u, N, rfl⟩, hb⟩
    · by_cases c : ∃ v, Lib.parseIntB 8 a0.data.toList = .ok v
      · obtain ⟨v, hv⟩ := c; rw [show (8 : Int).toNat = 8 from rfl, hv] at hr; simp only [Prod.mk.injEq] at hr; obtain ⟨rfl, rfl⟩ := hr
        exact pint_ok8 a0 h2 v hv w
      · have c' : ∀ v, Lib.parseIntB 8 a0.data.toList ≠ .ok v := fun v e => c ⟨v, e⟩
        have e2 : ∃ q, r2 = some q := by
          rw [show (8 : Int).toNat = 8 from rfl] at hr
          revert hr
          rcases hq : Lib.parseIntB 8 a0.data.toList with v | _ | _
          · exact absurd hq (c' v)
          · intro hr; simp only [Prod.mk.injEq] at hr; exact ⟨0, hr.2.symm⟩
          · intro hr; simp only [Prod.mk.injEq] at hr; exact ⟨0, hr.2.symm⟩
        obtain ⟨q, rfl⟩ := e2
        refine (pint_bad8 a0 h2 c' w hl_).mono ?_
        rintro e w' ⟨u, N, rfl, hb⟩
        exact ⟨⟨u, N, rfl⟩, hb⟩
  · cases h
def strings_CutSuffix.f (a0 a1 : ByteArray) : Option (ByteArray × Bool) := if a0.size ≤ 9223372036854775807 then some (⟨(Lib.trimSuffix a0.data.toList a1.data.toList).toArray⟩, Lib.hasSuffix a0.data.toList a1.data.toList) else none
theorem strings_CutSuffix.calls (a0 a1 : ByteArray) (r1 : ByteArray) (r2 : Bool) (w : World) (h : strings_CutSuffix.f a0 a1 = some (r1, r2)) :
    Calls Tryz.prog 120 #[.string a0, .string a1] w fun e w' => e = .returned (.tuple #[.string r1, .bool r2]) ∧ Below w.heap.size w w' := by
  unfold strings_CutSuffix.f at h
  split at h
  · rename_i c
    simp only [Option.some.injEq, Prod.mk.injEq] at h; obtain ⟨rfl, rfl⟩ := h
    refine (Tryz.strings_CutSuffix a0 a1 w c).mono ?_
    rintro e w' ⟨rfl, rfl⟩
    exact ⟨rfl, Below.refl _ _⟩
  · cases h
def strings_Cut.f (a0 a1 : ByteArray) : Option (ByteArray × ByteArray × Bool) := if a0.size < 4294967281 then some (⟨(Lib.cut a0.data.toList a1.data.toList).1.toArray⟩, ⟨(Lib.cut a0.data.toList a1.data.toList).2.1.toArray⟩, (Lib.cut a0.data.toList a1.data.toList).2.2) else none
theorem strings_Cut.calls (a0 a1 : ByteArray) (r1 r2 : ByteArray) (r3 : Bool) (w : World) (hl_ : Laid w) (h : strings_Cut.f a0 a1 = some (r1, r2, r3)) :
    Calls Tryz.prog 104 #[.string a0, .string a1] w fun e w' => e = .returned (.tuple #[.string r1, .string r2, .bool r3]) ∧ Below w.heap.size w w' := by
  unfold strings_Cut.f at h
  split at h
  · rename_i c
    simp only [Option.some.injEq, Prod.mk.injEq] at h; obtain ⟨rfl, rfl, rfl⟩ := h
    refine (Tryz.strings_Cut_shaped a0 a1 w hl_.shaped c).mono ?_
    rintro e w' ⟨rfl, n, rfl⟩
    exact ⟨rfl, pw_below_drewN (Below.refl _ _) n⟩
  · cases h
def strings_TrimRight.f (a0 a1 : ByteArray) : Option ByteArray := if a0.size ≤ 9223372036854775807 ∧ a1 = ⟨#[48]⟩ then some ⟨(Lib.trimRightB a0.data.toList 48).toArray⟩ else none
theorem strings_TrimRight.calls (a0 a1 : ByteArray) (r : ByteArray) (w : World) (h : strings_TrimRight.f a0 a1 = some r) :
    Calls Tryz.prog 188 #[.string a0, .string a1] w fun e w' => e = .returned (.string r) ∧ Below w.heap.size w w' := by
  unfold strings_TrimRight.f at h
  split at h
  · rename_i c
    obtain ⟨h0, rfl⟩ := c
    obtain rfl := Option.some.inj h
    refine (Tryz.strings_TrimRight_one a0 48 (by decide) w h0).mono ?_
    rintro e w' ⟨rfl, rfl⟩
    exact ⟨rfl, Below.refl _ _⟩
  · cases h
end Go.Proofs.YtfjifhkgifefeaaGreatDoor.Giv
end

section
namespace Go.Proofs.YtfjifhkgifefeaaGreatDoor.PT
open Go.Proofs.YtfjifhkgifefeaaGreatDoor.Giv Go.Proofs.YtfjifhkgifefeaaGreatDoor.PA Go.RowKit Go.Proofs.YtfjifhkgifefeaaGreatDoorW.PrintWords Go.Proofs.YtfjifhkgifefeaaGreatDoorW.PrintLast Go.Proofs.YtfjifhkgifefeaaGreatDoorW.PrintMore
attribute [local go_sem] max2_int min2_int max_two min_two max_three min_three max_four min_four   -- for this text's walks alone
set_option linter.unusedVariables false
set_option linter.unusedSimpArgs false
theorem info9 : (Tryz.prog.info? 9).map (fun i => (i.zero, i.size, i.bytes)) = some (some (.string ⟨#[]⟩), 1, 16) := by kernel_rfl
end Go.Proofs.YtfjifhkgifefeaaGreatDoor.PT
end

section
namespace Go.Proofs.YtfjifhkgifefeaaGreatDoor.PT
open Giv PA Go.RowKit YtfjifhkgifefeaaGreatDoorW.PrintWords YtfjifhkgifefeaaGreatDoorW.PrintLast YtfjifhkgifefeaaGreatDoorW.PrintMore
attribute [local go_sem] max2_int min2_int max_two min_two max_three min_three max_four min_four
set_option linter.unusedVariables false
set_option linter.unusedSimpArgs false
def num_Sub.f (a0 : Int) (a1 : Int) : Option (Int × Option Int) := if ((decide ((wrap64 (a0 - a1)) > a0)) != (decide (a1 < 0))) = true then (some (0, some 2)) else (some (wrap64 (a0 - a1), none))
theorem num_Sub.calls (a0 : Int) (a1 : Int) (r1 : Int) (r2 : Option Int) (w : World) (h : num_Sub.f a0 a1 = some (r1, r2)) :
  Calls Tryz.prog 226 #[.int .i64 a0, .int .i64 a1] w fun e w' => e = .returned (.tuple #[.int .i64 r1, errW r2]) ∧ Drawn0 w w' := by
 have hu28 := Tryz.underlying28; have hu157 := Tryz.underlying157; have H := h; clear h; replace H : (if ((decide ((wrap64 (a0 - a1)) > a0)) != (decide (a1 < 0))) = true then (some (0, some 2)) else (some (wrap64 (a0 - a1), none))) = some (r1, r2) := H
 by_cases c3 : ((decide ((wrap64 (a0 - a1)) > a0)) != (decide (a1 < 0))) = true
 ·rw [if_pos c3] at H; have c3b0 : ((decide ((wrap64 (a0 - a1)) > a0)) != (decide (a1 < 0))) = true := c3
  (try (have c3b1 : decide ((decide ((wrap64 (a0 - a1)) > a0)) = (decide (a1 < 0))) = false := by simpa using c3))
  (try (have c3b2 : ((decide ((wrap64 (a0 - a1)) > a0)) == (decide (a1 < 0))) = false := by simpa using c3))
  (try (have c3b3 : ¬ ((decide ((wrap64 (a0 - a1)) > a0)) = (decide (a1 < 0))) := by simpa using c3))
  clear c3; simp only [Option.some.injEq, Prod.mk.injEq] at H; obtain ⟨rfl, rfl⟩ := H
  go_enter Tryz.func226, Tryz.ntmps226
  go_wp2
  go_ret2
  exact ed_
 ·rw [if_neg c3] at H
  have c3b0 : ((decide ((wrap64 (a0 - a1)) > a0)) != (decide (a1 < 0))) = false := by simpa using c3
  (try (have c3b1 : decide ((decide ((wrap64 (a0 - a1)) > a0)) = (decide (a1 < 0))) = true := by simpa using c3))
  (try (have c3b2 : ((decide ((wrap64 (a0 - a1)) > a0)) == (decide (a1 < 0))) = true := by simpa using c3))
  clear c3; simp only [Option.some.injEq, Prod.mk.injEq] at H; obtain ⟨rfl, rfl⟩ := H
  go_enter Tryz.func226, Tryz.ntmps226
  go_wp2
  go_ret2
  exact ed_
end Go.Proofs.YtfjifhkgifefeaaGreatDoor.PT
end

section
namespace Go.Proofs.YtfjifhkgifefeaaGreatDoor.PT
open Giv PA Go.RowKit YtfjifhkgifefeaaGreatDoorW.PrintWords YtfjifhkgifefeaaGreatDoorW.PrintLast YtfjifhkgifefeaaGreatDoorW.PrintMore
attribute [local go_sem] max2_int min2_int max_two min_two max_three min_three max_four min_four
set_option linter.unusedVariables false
set_option linter.unusedSimpArgs false
def num_edge.f (a0 : Bool) : Option (Int) := if a0 = true then (some (-9223372036854775808)) else (some 9223372036854775807)
theorem num_edge.calls (a0 : Bool) (r : Int) (w : World) (h : num_edge.f a0 = some r) :
  Calls Tryz.prog 187 #[.bool a0] w fun e w' => e = .returned (.int .i64 r) ∧ Drawn0 w w' := by
 have H := h; clear h; replace H : (if a0 = true then (some (-9223372036854775808)) else (some 9223372036854775807)) = some r := H
 by_cases c2 : a0 = true
 ·subst c2
  have H1 : (some (-9223372036854775808)) = some r := by rw [if_pos rfl] at H; exact H
  clear H; have H := H1; clear H1
  obtain rfl := Option.some.inj H
  go_enter Tryz.func187, Tryz.ntmps187
  go_wp2
  go_ret
  exact ed_
 ·replace c2 := Bool.eq_false_iff.mpr c2; subst c2
  have H1 : (some 9223372036854775807) = some r := by rw [if_neg (show ¬ (false = true) by decide)] at H; exact H
  clear H; have H := H1; clear H1
  obtain rfl := Option.some.inj H
  go_enter Tryz.func187, Tryz.ntmps187
  go_wp2
  go_ret
  exact ed_
end Go.Proofs.YtfjifhkgifefeaaGreatDoor.PT
end

section
namespace Go.Proofs.YtfjifhkgifefeaaGreatDoor.PT
open Giv PA Go.RowKit YtfjifhkgifefeaaGreatDoorW.PrintWords YtfjifhkgifefeaaGreatDoorW.PrintLast YtfjifhkgifefeaaGreatDoorW.PrintMore
attribute [local go_sem] max2_int min2_int max_two min_two max_three min_three max_four min_four
set_option linter.unusedVariables false
set_option linter.unusedSimpArgs false
def num_SubSat.f (a0 : Int) (a1 : Int) : Option (Int) := (num_Sub.f a0 a1).bind fun bt101 => (if bt101.2.isNone = true then (some bt101.1) else ((num_edge.f (decide (a1 > 0))).bind fun t104 => (some t104)))
theorem num_SubSat.calls (a0 : Int) (a1 : Int) (r : Int) (w : World) (h : num_SubSat.f a0 a1 = some r) :
  Calls Tryz.prog 191 #[.int .i64 a0, .int .i64 a1] w fun e w' => e = .returned (.int .i64 r) ∧ Drawn0 w w' := by
 have hu28 := Tryz.underlying28; have hu157 := Tryz.underlying157; have H := h; clear h; replace H : ((num_Sub.f a0 a1).bind fun bt101 => (if bt101.2.isNone = true then (some bt101.1) else ((num_edge.f (decide (a1 > 0))).bind fun t104 => (some t104)))) = some r := H; replace H := Option.bind_eq_some_iff.mp H; obtain ⟨⟨t101, t102⟩, A30, H⟩ := H; (try dsimp only at H); have A3 := Aside0.mk A30; clear A30
 rcases t102 with _ | q103
 ·rw [if_pos (show (none : Option Int).isNone = true by rfl)] at H
  try dsimp only [Option.getD_some] at H
  try simp only [errW_none, errW_some]
  obtain rfl := Option.some.inj H
  go_enter Tryz.func191, Tryz.ntmps191
  go_wp2_with (first | ((with_reducible refine gate_callee (f := 226) rfl ?_); refine gc_ (some 10) Tryz.func226 (num_Sub.calls a0 a1 t101 none _ A3.out) ?_; rintro e w' ⟨rfl, ⟨nd, rfl⟩⟩; refine ⟨_, rfl, ?_⟩; (try simp only [errW_none, errW_some])))
  go_ret
  exact ed_
 ·rw [if_neg (show ¬ (some q103).isNone = true by simp)] at H
  try dsimp only [Option.getD_some] at H
  try simp only [errW_none, errW_some]
  replace H := Option.bind_eq_some_iff.mp H; obtain ⟨t104, A40, H⟩ := H; (try dsimp only at H); have A4 := Aside0.mk A40; clear A40
  obtain rfl := Option.some.inj H
  go_enter Tryz.func191, Tryz.ntmps191
  go_wp2_with (first | ((with_reducible refine gate_callee (f := 226) rfl ?_); refine gc_ (some 10) Tryz.func226 (num_Sub.calls a0 a1 t101 (some q103) _ A3.out) ?_; rintro e w' ⟨rfl, ⟨nd, rfl⟩⟩; refine ⟨_, rfl, ?_⟩; (try simp only [errW_none, errW_some])) | ((with_reducible refine gate_callee (f := 187) rfl ?_); refine gc_ (some 17) Tryz.func187 (num_edge.calls (decide (a1 > 0)) t104 _ A4.out) ?_; rintro e w' ⟨rfl, ⟨nd, rfl⟩⟩; refine ⟨_, rfl, ?_⟩))
  go_ret
  exact ed_
end Go.Proofs.YtfjifhkgifefeaaGreatDoor.PT
end

section
namespace Go.Proofs.YtfjifhkgifefeaaGreatDoor.PT
open Giv PA Go.RowKit YtfjifhkgifefeaaGreatDoorW.PrintWords YtfjifhkgifefeaaGreatDoorW.PrintLast YtfjifhkgifefeaaGreatDoorW.PrintMore
attribute [local go_sem] max2_int min2_int max_two min_two max_three min_three max_four min_four
set_option linter.unusedVariables false
set_option linter.unusedSimpArgs false
def num_Size.f (a0 : Int) : Option (Int) := if a0 < 0 then ((num_SubSat.f 0 a0).bind fun t105 => (some t105)) else (some a0)
theorem num_Size.calls (a0 : Int) (r : Int) (w : World) (h : num_Size.f a0 = some r) :
  Calls Tryz.prog 156 #[.int .i64 a0] w fun e w' => e = .returned (.int .i64 r) ∧ Drawn0 w w' := by
 have H := h; clear h; replace H : (if a0 < 0 then ((num_SubSat.f 0 a0).bind fun t105 => (some t105)) else (some a0)) = some r := H
 by_cases c2 : a0 < 0
 ·rw [if_pos c2] at H; have c2b0 : decide (a0 < 0) = true := decide_eq_true c2; clear c2; replace H := Option.bind_eq_some_iff.mp H; obtain ⟨t105, A30, H⟩ := H; (try dsimp only at H); have A3 := Aside0.mk A30; clear A30
  obtain rfl := Option.some.inj H
  go_enter Tryz.func156, Tryz.ntmps156
  go_wp2_with (first | ((with_reducible refine gate_callee (f := 191) rfl ?_); refine gc_ (some 6) Tryz.func191 (num_SubSat.calls 0 a0 t105 _ A3.out) ?_; rintro e w' ⟨rfl, ⟨nd, rfl⟩⟩; refine ⟨_, rfl, ?_⟩))
  go_ret
  exact ed_
 ·rw [if_neg c2] at H; have c2b0 : decide (a0 < 0) = false := decide_eq_false c2; clear c2
  obtain rfl := Option.some.inj H
  go_enter Tryz.func156, Tryz.ntmps156
  go_wp2
  go_ret
  exact ed_
end Go.Proofs.YtfjifhkgifefeaaGreatDoor.PT
end

section
namespace Go.Proofs.YtfjifhkgifefeaaGreatDoor.PT
open Giv PA Go.RowKit YtfjifhkgifefeaaGreatDoorW.PrintWords YtfjifhkgifefeaaGreatDoorW.PrintLast YtfjifhkgifefeaaGreatDoorW.PrintMore
attribute [local go_sem] max2_int min2_int max_two min_two max_three min_three max_four min_four
set_option linter.unusedVariables false
set_option linter.unusedSimpArgs false
def told_Check.f (a0_0 : Int) (a0_1 : Int) : Option (Option Int) := (num_Size.f a0_0).bind fun t107 => (if t107 ≥ 4611686018427387904 then (some (some 1)) else ((num_Size.f a0_1).bind fun t108 => (if t108 > 86399 then (some (some 1)) else (some none))))
theorem told_Check.calls (a0_0 : Int) (a0_1 : Int) (r : Option Int) (w : World) (h : told_Check.f a0_0 a0_1 = some r) :
  Calls Tryz.prog 89 #[.agg #[.int .i64 a0_0, .int .i64 a0_1]] w fun e w' => e = .returned (errW r) ∧ Below w.heap.size w w' := by
 have hu142 := Tryz.underlying142; have hu28 := Tryz.underlying28; have hu157 := Tryz.underlying157; have HB := Aside0.mk (Below.refl w.heap.size w); have H := h; clear h; replace H : ((num_Size.f a0_0).bind fun t107 => (if t107 ≥ 4611686018427387904 then (some (some 1)) else ((num_Size.f a0_1).bind fun t108 => (if t108 > 86399 then (some (some 1)) else (some none))))) = some r := H; replace H := Option.bind_eq_some_iff.mp H; obtain ⟨t107, A20, H⟩ := H; (try dsimp only at H); have A2 := Aside0.mk A20; clear A20
 by_cases c3 : t107 ≥ 4611686018427387904
 ·rw [if_pos c3] at H; have c3b0 : decide (4611686018427387904 ≤ t107) = true := decide_eq_true c3; clear c3
  obtain rfl := Option.some.inj H
  go_enter Tryz.func89, Tryz.ntmps89
  go_wp2_with (first | ((with_reducible refine gate_dst (N := 1) rfl ?_); refine be_ (N := 1) (cs := #[.int .i64 a0_0, .int .i64 a0_1]) (t := 142) ?_; intro gb106 hg w4 hbox hb; have BK106 := Aside0.mk hbox; have GW106 := Aside0.mk (sz_ hg : w.heap.size ≤ gb106); have GE106 := GW106; replace HB := bs_ hb; clear hb hbox hg; have hcz5_0 : w4.cell? ⟨gb106, 0, none⟩ = some (.int .i64 a0_0) := (blk_cell BK106.out 0).trans rfl; have hcz5_1 : w4.cell? ⟨gb106, 1, none⟩ = some (.int .i64 a0_1) := (blk_cell BK106.out 1).trans rfl; have hfz5_0 := blk_frozen BK106.out 0; have hfz5_1 := blk_frozen BK106.out 1) | ((with_reducible refine gate_callee (f := 156) rfl ?_); refine gc_ (some 5) Tryz.func156 (num_Size.calls a0_0 t107 _ A2.out) ?_; rintro e w' ⟨rfl, ⟨nd, rfl⟩⟩; refine ⟨_, rfl, ?_⟩))
  go_ret
  exact en_
 ·rw [if_neg c3] at H; have c3b0 : decide (4611686018427387904 ≤ t107) = false := decide_eq_false c3; clear c3; replace H := Option.bind_eq_some_iff.mp H; obtain ⟨t108, A60, H⟩ := H; (try dsimp only at H); have A6 := Aside0.mk A60; clear A60
  by_cases c7 : t108 > 86399
  ·rw [if_pos c7] at H; have c7b0 : decide (86399 < t108) = true := decide_eq_true c7; clear c7
   obtain rfl := Option.some.inj H
   go_enter Tryz.func89, Tryz.ntmps89
   go_wp2_with (first | ((with_reducible refine gate_dst (N := 1) rfl ?_); refine be_ (N := 1) (cs := #[.int .i64 a0_0, .int .i64 a0_1]) (t := 142) ?_; intro gb106 hg w8 hbox hb; have BK106 := Aside0.mk hbox; have GW106 := Aside0.mk (sz_ hg : w.heap.size ≤ gb106); have GE106 := GW106; replace HB := bs_ hb; clear hb hbox hg; have hcz9_0 : w8.cell? ⟨gb106, 0, none⟩ = some (.int .i64 a0_0) := (blk_cell BK106.out 0).trans rfl; have hcz9_1 : w8.cell? ⟨gb106, 1, none⟩ = some (.int .i64 a0_1) := (blk_cell BK106.out 1).trans rfl; have hfz9_0 := blk_frozen BK106.out 0; have hfz9_1 := blk_frozen BK106.out 1) | ((with_reducible refine gate_callee (f := 156) rfl ?_); refine gc_ (some 5) Tryz.func156 (num_Size.calls a0_0 t107 _ A2.out) ?_; rintro e w' ⟨rfl, ⟨nd, rfl⟩⟩; refine ⟨_, rfl, ?_⟩) | (go_at_call 156; (with_reducible refine (num_Size.calls a0_1 t108 _ A6.out).mono ?_); rintro e w' ⟨rfl, ⟨nd, rfl⟩⟩))
   go_ret
   exact en_
  ·rw [if_neg c7] at H; have c7b0 : decide (86399 < t108) = false := decide_eq_false c7; clear c7
   obtain rfl := Option.some.inj H
   go_enter Tryz.func89, Tryz.ntmps89
   go_wp2_with (first | ((with_reducible refine gate_dst (N := 1) rfl ?_); refine be_ (N := 1) (cs := #[.int .i64 a0_0, .int .i64 a0_1]) (t := 142) ?_; intro gb106 hg w10 hbox hb; have BK106 := Aside0.mk hbox; have GW106 := Aside0.mk (sz_ hg : w.heap.size ≤ gb106); have GE106 := GW106; replace HB := bs_ hb; clear hb hbox hg; have hcz11_0 : w10.cell? ⟨gb106, 0, none⟩ = some (.int .i64 a0_0) := (blk_cell BK106.out 0).trans rfl; have hcz11_1 : w10.cell? ⟨gb106, 1, none⟩ = some (.int .i64 a0_1) := (blk_cell BK106.out 1).trans rfl; have hfz11_0 := blk_frozen BK106.out 0; have hfz11_1 := blk_frozen BK106.out 1) | ((with_reducible refine gate_callee (f := 156) rfl ?_); refine gc_ (some 5) Tryz.func156 (num_Size.calls a0_0 t107 _ A2.out) ?_; rintro e w' ⟨rfl, ⟨nd, rfl⟩⟩; refine ⟨_, rfl, ?_⟩) | (go_at_call 156; (with_reducible refine (num_Size.calls a0_1 t108 _ A6.out).mono ?_); rintro e w' ⟨rfl, ⟨nd, rfl⟩⟩))
   go_ret
   exact en_
end Go.Proofs.YtfjifhkgifefeaaGreatDoor.PT
end

section
namespace Go.Proofs.YtfjifhkgifefeaaGreatDoor.PT
open Giv PA Go.RowKit YtfjifhkgifefeaaGreatDoorW.PrintWords YtfjifhkgifefeaaGreatDoorW.PrintLast YtfjifhkgifefeaaGreatDoorW.PrintMore
attribute [local go_sem] max2_int min2_int max_two min_two max_three min_three max_four min_four
set_option linter.unusedVariables false
set_option linter.unusedSimpArgs false
def told_two.f (a0 : Int) : Option (ByteArray) := (strconv_FormatInt.f (wrap64 (Int.tdiv a0 10)) 10).bind fun t109 => ((strconv_FormatInt.f (Int.tmod a0 10) 10).bind fun t110 => (if t109.size + t110.size ≤ 9223372036854775807 then (some (t109 ++ t110)) else (none)))
theorem told_two.calls (a0 : Int) (r : ByteArray) (w : World) (hl_ : Laid w) (h : told_two.f a0 = some r) :
  Calls Tryz.prog 186 #[.int .i64 a0] w fun e w' => e = .returned (.string r) ∧ Below w.heap.size w w' := by
 have HL := Aside0.mk hl_; clear hl_; have HB := Aside0.mk (Below.refl w.heap.size w); have H := h; clear h
 unfold told_two.f at H
 replace H := Option.bind_eq_some_iff.mp H; obtain ⟨t109, A20, H⟩ := H; (try dsimp only at H); have A2 := Aside0.mk A20; clear A20; replace H := Option.bind_eq_some_iff.mp H; obtain ⟨t110, A30, H⟩ := H; (try dsimp only at H); have A3 := Aside0.mk A30; clear A30
 by_cases c4 : t109.size + t110.size ≤ 9223372036854775807
 ·rw [if_pos c4] at H; have c4b0 := eq_true c4; have c4b1 : decide (t109.size + t110.size ≤ 9223372036854775807) = true := decide_eq_true c4
  try have c4b2 : (9223372036854775807 < t109.size + t110.size) = False := eq_false (Nat.not_lt.2 c4)
  obtain rfl := Option.some.inj H
  go_enter Tryz.func186, Tryz.ntmps186
  go_wp2_with (first | ((with_reducible refine gate_callee (f := 114) rfl ?_); refine gd_ (some 5) Tryz.func114 (strconv_FormatInt.calls (wrap64 (Int.tdiv a0 10)) 10 t109 _ lb_ A2.out) ?_; intro w5 hb; replace HB := bs_ hb; (try clear hb)) | ((with_reducible refine gate_callee (f := 114) rfl ?_); refine gd_ (some 8) Tryz.func114 (strconv_FormatInt.calls (Int.tmod a0 10) 10 t110 _ lb_ A3.out) ?_; intro w6 hb; replace HB := bs_ hb; (try clear hb)))
  go_ret
  exact en_
 ·rw [if_neg c4] at H; exact absurd H (by simp)
end Go.Proofs.YtfjifhkgifefeaaGreatDoor.PT
end

section
namespace Go.Proofs.YtfjifhkgifefeaaGreatDoor.PT
open Giv PA Go.RowKit YtfjifhkgifefeaaGreatDoorW.PrintWords YtfjifhkgifefeaaGreatDoorW.PrintLast YtfjifhkgifefeaaGreatDoorW.PrintMore
attribute [local go_sem] max2_int min2_int max_two min_two max_three min_three max_four min_four
set_option linter.unusedVariables false
set_option linter.unusedSimpArgs false
def told_added.j0 : Nat → ByteArray → Int → Option (ByteArray)
 | 0, _, _ => none
 | k + 1, x3, x4 => (told_two.f (wrap64 (Int.tdiv x4 3600))).bind fun t112 => (if x3.size + t112.size ≤ 9223372036854775807 then (if (x3 ++ t112).size + 1 ≤ 9223372036854775807 then ((told_two.f (Int.tmod (wrap64 (Int.tdiv x4 60)) 60)).bind fun t113 => (if ((x3 ++ t112) ++ (⟨#[58]⟩ : ByteArray)).size + t113.size ≤ 9223372036854775807 then (if (Int.tmod x4 60) > 0 then ((told_two.f (Int.tmod x4 60)).bind fun t114 => (if 1 + t114.size ≤ 9223372036854775807 then (if (((x3 ++ t112) ++ (⟨#[58]⟩ : ByteArray)) ++ t113).size + ((⟨#[58]⟩ : ByteArray) ++ t114).size ≤ 9223372036854775807 then (some ((((x3 ++ t112) ++ (⟨#[58]⟩ : ByteArray)) ++ t113) ++ ((⟨#[58]⟩ : ByteArray) ++ t114))) else (none)) else (none))) else (some (((x3 ++ t112) ++ (⟨#[58]⟩ : ByteArray)) ++ t113))) else (none))) else (none)) else (none))
def told_added.f (k : Nat) (a0 : Int) : Option (ByteArray) := (num_Size.f a0).bind fun t111 => (if a0 < 0 then (told_added.j0 k (⟨#[45]⟩ : ByteArray) t111) else (told_added.j0 k (⟨#[43]⟩ : ByteArray) t111))
theorem told_added.calls (k : Nat) (a0 : Int) (r : ByteArray) (w : World) (hl_ : Laid w) (h : told_added.f k a0 = some r) :
  Calls Tryz.prog 146 #[.int .i64 a0] w fun e w' => e = .returned (.string r) ∧ Below w.heap.size w w' := by
 have HL := Aside0.mk hl_; clear hl_; have HB := Aside0.mk (Below.refl w.heap.size w); have H := h; clear h; replace H : ((num_Size.f a0).bind fun t111 => (if a0 < 0 then (told_added.j0 k (⟨#[45]⟩ : ByteArray) t111) else (told_added.j0 k (⟨#[43]⟩ : ByteArray) t111))) = some r := H; replace H := Option.bind_eq_some_iff.mp H; obtain ⟨t111, A20, H⟩ := H; (try dsimp only at H); have A2 := Aside0.mk A20; clear A20; have HC3 := Aside0.mk H; clear H
 go_enter Tryz.func146, Tryz.ntmps146
 go_upto_if 9 with (first | ((with_reducible refine gate_callee (f := 156) rfl ?_); refine gc_ (some 7) Tryz.func156 (num_Size.calls a0 t111 _ A2.out) ?_; rintro e w' ⟨rfl, ⟨nd, rfl⟩⟩; refine ⟨_, rfl, ?_⟩))
 (try simp only [Act.put, List.setIfInBounds_toArray, List.set_cons_zero, List.set_cons_succ])
 go_cut [3] (fun v3 wc => ∃ (kq : Nat) (x3_2 : ByteArray), v3 = .string x3_2 ∧ Aside0 (told_added.j0 kq x3_2 t111 = some r) ∧ Aside0 (kq ≤ k) ∧ Aside0 (Below w.heap.size w wc))
 case first =>
  have H := HC3.out; clear HC3
  by_cases c4 : a0 < 0
  ·rw [if_pos c4] at H; have c4b0 : decide (a0 < 0) = true := decide_eq_true c4; clear c4
   (first | rw [c4b0] | (simp only [i64_w, i32_w]; rw [c4b0]) | skip)
   have H' := Aside0.mk H; clear H
   go_wp2
   go_meet
   case rel => exact ⟨_, ((⟨#[45]⟩ : ByteArray)), rs_, H', ⟨by first | omega | exact Nat.le_refl _⟩, ⟨bl_⟩⟩
  ·rw [if_neg c4] at H; have c4b0 : decide (a0 < 0) = false := decide_eq_false c4; clear c4
   (first | rw [c4b0] | (simp only [i64_w, i32_w]; rw [c4b0]) | skip)
   have H' := Aside0.mk H; clear H
   go_wp2
   go_meet
   case rel => exact ⟨_, ((⟨#[43]⟩ : ByteArray)), rs_, H', ⟨by first | omega | exact Nat.le_refl _⟩, ⟨bl_⟩⟩
 case rest =>
  clear HC3; (try clear c1); (try clear p2); (try clear c4); (try clear c4b0); obtain ⟨kq, x3_2, rfl, HA, HJ2, HB⟩ := hcut
  cases kq with
  | zero => exact absurd HA.out (by simp [told_added.j0])
  | succ kj2 =>
   have H := HA.out; clear HA; simp only [told_added.j0] at H; replace H := Option.bind_eq_some_iff.mp H; obtain ⟨t112, A50, H⟩ := H; (try dsimp only at H); have A5 := Aside0.mk A50; clear A50
   by_cases c6 : x3_2.size + t112.size ≤ 9223372036854775807
   ·rw [if_pos c6] at H; have c6b0 := eq_true c6; have c6b1 : decide (x3_2.size + t112.size ≤ 9223372036854775807) = true := decide_eq_true c6
    try have c6b2 : (9223372036854775807 < x3_2.size + t112.size) = False := eq_false (Nat.not_lt.2 c6)
    by_cases c7 : (x3_2 ++ t112).size + 1 ≤ 9223372036854775807
    ·rw [if_pos c7] at H; have c7b0 := eq_true c7; have c7b1 : decide ((x3_2 ++ t112).size + 1 ≤ 9223372036854775807) = true := decide_eq_true c7
     try have c7b2 : (9223372036854775807 < (x3_2 ++ t112).size + 1) = False := eq_false (Nat.not_lt.2 c7)
     try have c7b3 : (9223372036854775807 < x3_2.size + t112.size + 1) = False := eq_false (by have q_ := c7; simp only [ByteArray.size_append] at q_; exact Nat.not_lt.2 q_)
     replace H := Option.bind_eq_some_iff.mp H; obtain ⟨t113, A80, H⟩ := H; (try dsimp only at H); have A8 := Aside0.mk A80; clear A80
     by_cases c9 : ((x3_2 ++ t112) ++ (⟨#[58]⟩ : ByteArray)).size + t113.size ≤ 9223372036854775807
     ·rw [if_pos c9] at H; have c9b0 := eq_true c9; have c9b1 : decide (((x3_2 ++ t112) ++ (⟨#[58]⟩ : ByteArray)).size + t113.size ≤ 9223372036854775807) = true := decide_eq_true c9
      try have c9b2 : (9223372036854775807 < ((x3_2 ++ t112) ++ (⟨#[58]⟩ : ByteArray)).size + t113.size) = False := eq_false (Nat.not_lt.2 c9)
      try have c9b3 : (9223372036854775807 < x3_2.size + t112.size + 1 + t113.size) = False := eq_false (by have q_ := c9; simp only [ByteArray.size_append] at q_; exact Nat.not_lt.2 q_)
      by_cases c10 : (Int.tmod t111 60) > 0
      ·rw [if_pos c10] at H; have c10b0 : decide (0 < (Int.tmod t111 60)) = true := decide_eq_true c10; clear c10; replace H := Option.bind_eq_some_iff.mp H; obtain ⟨t114, A110, H⟩ := H; (try dsimp only at H); have A11 := Aside0.mk A110; clear A110
       by_cases c12 : 1 + t114.size ≤ 9223372036854775807
       ·rw [if_pos c12] at H; have c12b0 := eq_true c12; have c12b1 : decide (1 + t114.size ≤ 9223372036854775807) = true := decide_eq_true c12
        try have c12b2 : (9223372036854775807 < 1 + t114.size) = False := eq_false (Nat.not_lt.2 c12)
        by_cases c13 : (((x3_2 ++ t112) ++ (⟨#[58]⟩ : ByteArray)) ++ t113).size + ((⟨#[58]⟩ : ByteArray) ++ t114).size ≤ 9223372036854775807
        ·rw [if_pos c13] at H; have c13b0 := eq_true c13; have c13b1 : decide ((((x3_2 ++ t112) ++ (⟨#[58]⟩ : ByteArray)) ++ t113).size + ((⟨#[58]⟩ : ByteArray) ++ t114).size ≤ 9223372036854775807) = true := decide_eq_true c13
         try have c13b2 : (9223372036854775807 < (((x3_2 ++ t112) ++ (⟨#[58]⟩ : ByteArray)) ++ t113).size + ((⟨#[58]⟩ : ByteArray) ++ t114).size) = False := eq_false (Nat.not_lt.2 c13)
         try have c13b3 : (9223372036854775807 < x3_2.size + t112.size + 1 + t113.size + 1 + t114.size) = False := eq_false (by have q_ := c13; simp only [ByteArray.size_append] at q_; exact Nat.not_lt.2 q_)
         obtain rfl := Option.some.inj H
         go_wp2_with (first | ((with_reducible refine gate_callee (f := 186) rfl ?_); refine gd_ (some 13) Tryz.func186 (told_two.calls (wrap64 (Int.tdiv t111 3600)) t112 _ lb_ A5.out) ?_; intro w14 hb; replace HB := bs_ hb; (try clear hb)) | ((with_reducible refine gate_callee (f := 186) rfl ?_); refine gd_ (some 19) Tryz.func186 (told_two.calls (Int.tmod (wrap64 (Int.tdiv t111 60)) 60) t113 _ lb_ A8.out) ?_; intro w15 hb; replace HB := bs_ hb; (try clear hb)) | ((with_reducible refine gate_callee (f := 186) rfl ?_); refine gd_ (some 27) Tryz.func186 (told_two.calls (Int.tmod t111 60) t114 _ lb_ A11.out) ?_; intro w16 hb; replace HB := bs_ hb; (try clear hb)))
         go_ret
         exact en_
        ·rw [if_neg c13] at H; exact absurd H (by simp)
       ·rw [if_neg c12] at H; exact absurd H (by simp)
      ·rw [if_neg c10] at H; have c10b0 : decide (0 < (Int.tmod t111 60)) = false := decide_eq_false c10; clear c10
       obtain rfl := Option.some.inj H
       go_wp2_with (first | ((with_reducible refine gate_callee (f := 186) rfl ?_); refine gd_ (some 13) Tryz.func186 (told_two.calls (wrap64 (Int.tdiv t111 3600)) t112 _ lb_ A5.out) ?_; intro w17 hb; replace HB := bs_ hb; (try clear hb)) | ((with_reducible refine gate_callee (f := 186) rfl ?_); refine gd_ (some 19) Tryz.func186 (told_two.calls (Int.tmod (wrap64 (Int.tdiv t111 60)) 60) t113 _ lb_ A8.out) ?_; intro w18 hb; replace HB := bs_ hb; (try clear hb)))
       go_ret
       exact en_
     ·rw [if_neg c9] at H; exact absurd H (by simp)
    ·rw [if_neg c7] at H; exact absurd H (by simp)
   ·rw [if_neg c6] at H; exact absurd H (by simp)
end Go.Proofs.YtfjifhkgifefeaaGreatDoor.PT
end

section
namespace Go.Proofs.YtfjifhkgifefeaaGreatDoor.PT
open Giv PA Go.RowKit YtfjifhkgifefeaaGreatDoorW.PrintWords YtfjifhkgifefeaaGreatDoorW.PrintLast YtfjifhkgifefeaaGreatDoorW.PrintMore
attribute [local go_sem] max2_int min2_int max_two min_two max_three min_three max_four min_four
set_option linter.unusedVariables false
set_option linter.unusedSimpArgs false
def told_Text.f (k : Nat) (a0_0 : Int) (a0_1 : Int) : Option (ByteArray × Option Int) := (told_Check.f a0_0 a0_1).bind fun t116 => (if t116.isNone = true then ((num_Div.f a0_0 1000000000).bind fun bt118 => (if bt118.2.2.isNone = true then ((num_Div.f (wrap64 (bt118.1 + a0_1)) 86400).bind fun bt122 => (if bt122.2.2.isNone = true then ((daytime_Stamp.f k bt122.1 bt122.2.1 bt118.2.1).bind fun bt126 => (if bt126.2.isNone = true then ((told_added.f k a0_1).bind fun t129 => (if bt126.1.size + t129.size ≤ 9223372036854775807 then (some (bt126.1 ++ t129, none)) else (none))) else (some ((⟨#[]⟩ : ByteArray), some (bt126.2.getD 0))))) else (some ((⟨#[]⟩ : ByteArray), some (bt122.2.2.getD 0))))) else (some ((⟨#[]⟩ : ByteArray), some (bt118.2.2.getD 0))))) else (some ((⟨#[]⟩ : ByteArray), some (t116.getD 0))))
theorem told_Text.calls (k : Nat) (a0_0 : Int) (a0_1 : Int) (r1 : ByteArray) (r2 : Option Int) (w : World) (hl_ : Laid w) (h : told_Text.f k a0_0 a0_1 = some (r1, r2)) :
  Calls Tryz.prog 80 #[.agg #[.int .i64 a0_0, .int .i64 a0_1]] w fun e w' => e = .returned (.tuple #[.string r1, errW r2]) ∧ Below w.heap.size w w' := by
 have hu142 := Tryz.underlying142; have hu28 := Tryz.underlying28; have hu157 := Tryz.underlying157; have HL := Aside0.mk hl_; clear hl_; have HB := Aside0.mk (Below.refl w.heap.size w); have H := h; clear h
 unfold told_Text.f at H
 replace H := Option.bind_eq_some_iff.mp H; obtain ⟨t116, A20, H⟩ := H; (try dsimp only at H); have A2 := Aside0.mk A20; clear A20
 rcases t116 with _ | q117
 ·rw [if_pos (show (none : Option Int).isNone = true by rfl)] at H
  try dsimp only [Option.getD_some] at H
  try simp only [errW_none, errW_some]
  replace H := Option.bind_eq_some_iff.mp H; obtain ⟨⟨t118, t119, t120⟩, A30, H⟩ := H; (try dsimp only at H); have A3 := Aside0.mk A30; clear A30
  rcases t120 with _ | q121
  ·rw [if_pos (show (none : Option Int).isNone = true by rfl)] at H
   try dsimp only [Option.getD_some] at H
   try simp only [errW_none, errW_some]
   replace H := Option.bind_eq_some_iff.mp H; obtain ⟨⟨t122, t123, t124⟩, A40, H⟩ := H; (try dsimp only at H); have A4 := Aside0.mk A40; clear A40
   rcases t124 with _ | q125
   ·rw [if_pos (show (none : Option Int).isNone = true by rfl)] at H
    try dsimp only [Option.getD_some] at H
    try simp only [errW_none, errW_some]
    replace H := Option.bind_eq_some_iff.mp H; obtain ⟨⟨t126, t127⟩, A50, H⟩ := H; (try dsimp only at H); have A5 := Aside0.mk A50; clear A50
    rcases t127 with _ | q128
    ·rw [if_pos (show (none : Option Int).isNone = true by rfl)] at H
     try dsimp only [Option.getD_some] at H
     try simp only [errW_none, errW_some]
     replace H := Option.bind_eq_some_iff.mp H; obtain ⟨t129, A60, H⟩ := H; (try dsimp only at H); have A6 := Aside0.mk A60; clear A60
     by_cases c7 : t126.size + t129.size ≤ 9223372036854775807
     ·rw [if_pos c7] at H; have c7b0 := eq_true c7; have c7b1 : decide (t126.size + t129.size ≤ 9223372036854775807) = true := decide_eq_true c7
      try have c7b2 : (9223372036854775807 < t126.size + t129.size) = False := eq_false (Nat.not_lt.2 c7)
      simp only [Option.some.injEq, Prod.mk.injEq] at H; obtain ⟨rfl, rfl⟩ := H
      go_enter Tryz.func80, Tryz.ntmps80
      go_wp2_with (first | ((with_reducible refine gate_dst (N := 1) rfl ?_); refine be_ (N := 1) (cs := #[.int .i64 a0_0, .int .i64 a0_1]) (t := 142) ?_; intro gb115 hg w8 hbox hb; have BK115 := Aside0.mk hbox; have GW115 := Aside0.mk (sz_ hg : w.heap.size ≤ gb115); have GE115 := GW115; replace HB := bs_ hb; clear hb hbox hg; have hcz9_0 : w8.cell? ⟨gb115, 0, none⟩ = some (.int .i64 a0_0) := (blk_cell BK115.out 0).trans rfl; have hcz9_1 : w8.cell? ⟨gb115, 1, none⟩ = some (.int .i64 a0_1) := (blk_cell BK115.out 1).trans rfl; have hfz9_0 := blk_frozen BK115.out 0; have hfz9_1 := blk_frozen BK115.out 1) | ((with_reducible refine gate_callee (f := 89) rfl ?_); refine gd_ (some 12) Tryz.func89 (told_Check.calls a0_0 a0_1 none _ A2.out) ?_; intro w10 hb; replace BK115 := bb_ BK115.out hb; replace HB := bs_ hb; (try clear hb); (try simp only [errW_none, errW_some]); have hcz11_0 : w10.cell? ⟨gb115, 0, none⟩ = some (.int .i64 a0_0) := (blk_cell BK115.out 0).trans rfl; have hcz11_1 : w10.cell? ⟨gb115, 1, none⟩ = some (.int .i64 a0_1) := (blk_cell BK115.out 1).trans rfl; have hfz11_0 := blk_frozen BK115.out 0; have hfz11_1 := blk_frozen BK115.out 1) | ((with_reducible refine gate_callee (f := 91) rfl ?_); refine gc_ (some 19) Tryz.func91 (num_Div.calls a0_0 1000000000 t118 t119 none _ A3.out) ?_; rintro e w' ⟨rfl, ⟨nd, rfl⟩⟩; refine ⟨_, rfl, ?_⟩; (try simp only [errW_none, errW_some])) | ((with_reducible refine gate_callee (f := 91) rfl ?_); refine gc_ (some 31) Tryz.func91 (num_Div.calls (wrap64 (t118 + a0_1)) 86400 t122 t123 none _ A4.out) ?_; rintro e w' ⟨rfl, ⟨nd, rfl⟩⟩; refine ⟨_, rfl, ?_⟩; (try simp only [errW_none, errW_some])) | ((with_reducible refine gate_callee (f := 39) rfl ?_); refine gd_ (some 42) Tryz.func39 (daytime_Stamp.calls k t122 t123 t119 t126 none _ lb_ A5.out) ?_; intro w12 hb; replace BK115 := bb_ BK115.out hb; replace HB := bs_ hb; (try simp only [errW_none, errW_some]); have hcz13_0 : w12.cell? ⟨gb115, 0, none⟩ = some (.int .i64 a0_0) := (blk_cell BK115.out 0).trans rfl; have hcz13_1 : w12.cell? ⟨gb115, 1, none⟩ = some (.int .i64 a0_1) := (blk_cell BK115.out 1).trans rfl; have hfz13_0 := blk_frozen BK115.out 0; have hfz13_1 := blk_frozen BK115.out 1) | ((with_reducible refine gate_callee (f := 146) rfl ?_); refine gd_ (some 51) Tryz.func146 (told_added.calls k a0_1 t129 _ lb_ A6.out) ?_; intro w14 hb; replace BK115 := bb_ BK115.out hb; replace HB := bs_ hb; (try clear hb)))
      go_ret2
      exact en_
     ·rw [if_neg c7] at H; exact absurd H (by simp)
    ·rw [if_neg (show ¬ (some q128).isNone = true by simp)] at H
     try dsimp only [Option.getD_some] at H
     try simp only [errW_none, errW_some]
     simp only [Option.some.injEq, Prod.mk.injEq] at H; obtain ⟨rfl, rfl⟩ := H
     go_enter Tryz.func80, Tryz.ntmps80
     go_wp2_with (first | ((with_reducible refine gate_dst (N := 1) rfl ?_); refine be_ (N := 1) (cs := #[.int .i64 a0_0, .int .i64 a0_1]) (t := 142) ?_; intro gb115 hg w15 hbox hb; have BK115 := Aside0.mk hbox; have GW115 := Aside0.mk (sz_ hg : w.heap.size ≤ gb115); have GE115 := GW115; replace HB := bs_ hb; clear hb hbox hg; have hcz16_0 : w15.cell? ⟨gb115, 0, none⟩ = some (.int .i64 a0_0) := (blk_cell BK115.out 0).trans rfl; have hcz16_1 : w15.cell? ⟨gb115, 1, none⟩ = some (.int .i64 a0_1) := (blk_cell BK115.out 1).trans rfl; have hfz16_0 := blk_frozen BK115.out 0; have hfz16_1 := blk_frozen BK115.out 1) | ((with_reducible refine gate_callee (f := 89) rfl ?_); refine gd_ (some 12) Tryz.func89 (told_Check.calls a0_0 a0_1 none _ A2.out) ?_; intro w17 hb; replace BK115 := bb_ BK115.out hb; replace HB := bs_ hb; (try clear hb); (try simp only [errW_none, errW_some]); have hcz18_0 : w17.cell? ⟨gb115, 0, none⟩ = some (.int .i64 a0_0) := (blk_cell BK115.out 0).trans rfl; have hcz18_1 : w17.cell? ⟨gb115, 1, none⟩ = some (.int .i64 a0_1) := (blk_cell BK115.out 1).trans rfl; have hfz18_0 := blk_frozen BK115.out 0; have hfz18_1 := blk_frozen BK115.out 1) | ((with_reducible refine gate_callee (f := 91) rfl ?_); refine gc_ (some 19) Tryz.func91 (num_Div.calls a0_0 1000000000 t118 t119 none _ A3.out) ?_; rintro e w' ⟨rfl, ⟨nd, rfl⟩⟩; refine ⟨_, rfl, ?_⟩; (try simp only [errW_none, errW_some])) | ((with_reducible refine gate_callee (f := 91) rfl ?_); refine gc_ (some 31) Tryz.func91 (num_Div.calls (wrap64 (t118 + a0_1)) 86400 t122 t123 none _ A4.out) ?_; rintro e w' ⟨rfl, ⟨nd, rfl⟩⟩; refine ⟨_, rfl, ?_⟩; (try simp only [errW_none, errW_some])) | ((with_reducible refine gate_callee (f := 39) rfl ?_); refine gd_ (some 42) Tryz.func39 (daytime_Stamp.calls k t122 t123 t119 t126 (some q128) _ lb_ A5.out) ?_; intro w19 hb; replace BK115 := bb_ BK115.out hb; replace HB := bs_ hb; (try simp only [errW_none, errW_some])))
     go_ret2
     exact en_
   ·rw [if_neg (show ¬ (some q125).isNone = true by simp)] at H
    try dsimp only [Option.getD_some] at H
    try simp only [errW_none, errW_some]
    simp only [Option.some.injEq, Prod.mk.injEq] at H; obtain ⟨rfl, rfl⟩ := H
    go_enter Tryz.func80, Tryz.ntmps80
    go_wp2_with (first | ((with_reducible refine gate_dst (N := 1) rfl ?_); refine be_ (N := 1) (cs := #[.int .i64 a0_0, .int .i64 a0_1]) (t := 142) ?_; intro gb115 hg w20 hbox hb; have BK115 := Aside0.mk hbox; have GW115 := Aside0.mk (sz_ hg : w.heap.size ≤ gb115); have GE115 := GW115; replace HB := bs_ hb; clear hb hbox hg; have hcz21_0 : w20.cell? ⟨gb115, 0, none⟩ = some (.int .i64 a0_0) := (blk_cell BK115.out 0).trans rfl; have hcz21_1 : w20.cell? ⟨gb115, 1, none⟩ = some (.int .i64 a0_1) := (blk_cell BK115.out 1).trans rfl; have hfz21_0 := blk_frozen BK115.out 0; have hfz21_1 := blk_frozen BK115.out 1) | ((with_reducible refine gate_callee (f := 89) rfl ?_); refine gd_ (some 12) Tryz.func89 (told_Check.calls a0_0 a0_1 none _ A2.out) ?_; intro w22 hb; replace BK115 := bb_ BK115.out hb; replace HB := bs_ hb; (try clear hb); (try simp only [errW_none, errW_some]); have hcz23_0 : w22.cell? ⟨gb115, 0, none⟩ = some (.int .i64 a0_0) := (blk_cell BK115.out 0).trans rfl; have hcz23_1 : w22.cell? ⟨gb115, 1, none⟩ = some (.int .i64 a0_1) := (blk_cell BK115.out 1).trans rfl; have hfz23_0 := blk_frozen BK115.out 0; have hfz23_1 := blk_frozen BK115.out 1) | ((with_reducible refine gate_callee (f := 91) rfl ?_); refine gc_ (some 19) Tryz.func91 (num_Div.calls a0_0 1000000000 t118 t119 none _ A3.out) ?_; rintro e w' ⟨rfl, ⟨nd, rfl⟩⟩; refine ⟨_, rfl, ?_⟩; (try simp only [errW_none, errW_some])) | ((with_reducible refine gate_callee (f := 91) rfl ?_); refine gc_ (some 31) Tryz.func91 (num_Div.calls (wrap64 (t118 + a0_1)) 86400 t122 t123 (some q125) _ A4.out) ?_; rintro e w' ⟨rfl, ⟨nd, rfl⟩⟩; refine ⟨_, rfl, ?_⟩; (try simp only [errW_none, errW_some])))
    go_ret2
    exact en_
  ·rw [if_neg (show ¬ (some q121).isNone = true by simp)] at H
   try dsimp only [Option.getD_some] at H
   try simp only [errW_none, errW_some]
   simp only [Option.some.injEq, Prod.mk.injEq] at H; obtain ⟨rfl, rfl⟩ := H
   go_enter Tryz.func80, Tryz.ntmps80
   go_wp2_with (first | ((with_reducible refine gate_dst (N := 1) rfl ?_); refine be_ (N := 1) (cs := #[.int .i64 a0_0, .int .i64 a0_1]) (t := 142) ?_; intro gb115 hg w24 hbox hb; have BK115 := Aside0.mk hbox; have GW115 := Aside0.mk (sz_ hg : w.heap.size ≤ gb115); have GE115 := GW115; replace HB := bs_ hb; clear hb hbox hg; have hcz25_0 : w24.cell? ⟨gb115, 0, none⟩ = some (.int .i64 a0_0) := (blk_cell BK115.out 0).trans rfl; have hcz25_1 : w24.cell? ⟨gb115, 1, none⟩ = some (.int .i64 a0_1) := (blk_cell BK115.out 1).trans rfl; have hfz25_0 := blk_frozen BK115.out 0; have hfz25_1 := blk_frozen BK115.out 1) | ((with_reducible refine gate_callee (f := 89) rfl ?_); refine gd_ (some 12) Tryz.func89 (told_Check.calls a0_0 a0_1 none _ A2.out) ?_; intro w26 hb; replace BK115 := bb_ BK115.out hb; replace HB := bs_ hb; (try clear hb); (try simp only [errW_none, errW_some]); have hcz27_0 : w26.cell? ⟨gb115, 0, none⟩ = some (.int .i64 a0_0) := (blk_cell BK115.out 0).trans rfl; have hcz27_1 : w26.cell? ⟨gb115, 1, none⟩ = some (.int .i64 a0_1) := (blk_cell BK115.out 1).trans rfl; have hfz27_0 := blk_frozen BK115.out 0; have hfz27_1 := blk_frozen BK115.out 1) | ((with_reducible refine gate_callee (f := 91) rfl ?_); refine gc_ (some 19) Tryz.func91 (num_Div.calls a0_0 1000000000 t118 t119 (some q121) _ A3.out) ?_; rintro e w' ⟨rfl, ⟨nd, rfl⟩⟩; refine ⟨_, rfl, ?_⟩; (try simp only [errW_none, errW_some])))
   go_ret2
   exact en_
 ·rw [if_neg (show ¬ (some q117).isNone = true by simp)] at H
  try dsimp only [Option.getD_some] at H
  try simp only [errW_none, errW_some]
  simp only [Option.some.injEq, Prod.mk.injEq] at H; obtain ⟨rfl, rfl⟩ := H
  go_enter Tryz.func80, Tryz.ntmps80
  go_wp2_with (first | ((with_reducible refine gate_dst (N := 1) rfl ?_); refine be_ (N := 1) (cs := #[.int .i64 a0_0, .int .i64 a0_1]) (t := 142) ?_; intro gb115 hg w28 hbox hb; have BK115 := Aside0.mk hbox; have GW115 := Aside0.mk (sz_ hg : w.heap.size ≤ gb115); have GE115 := GW115; replace HB := bs_ hb; clear hb hbox hg; have hcz29_0 : w28.cell? ⟨gb115, 0, none⟩ = some (.int .i64 a0_0) := (blk_cell BK115.out 0).trans rfl; have hcz29_1 : w28.cell? ⟨gb115, 1, none⟩ = some (.int .i64 a0_1) := (blk_cell BK115.out 1).trans rfl; have hfz29_0 := blk_frozen BK115.out 0; have hfz29_1 := blk_frozen BK115.out 1) | ((with_reducible refine gate_callee (f := 89) rfl ?_); refine gd_ (some 12) Tryz.func89 (told_Check.calls a0_0 a0_1 (some q117) _ A2.out) ?_; intro w30 hb; replace BK115 := bb_ BK115.out hb; replace HB := bs_ hb; (try clear hb); (try simp only [errW_none, errW_some])))
  go_ret2
  exact en_
end Go.Proofs.YtfjifhkgifefeaaGreatDoor.PT
end

section
namespace Go.Proofs.YtfjifhkgifefeaaGreatDoor.PT
open Giv PA Go.RowKit YtfjifhkgifefeaaGreatDoorW.PrintWords YtfjifhkgifefeaaGreatDoorW.PrintLast YtfjifhkgifefeaaGreatDoorW.PrintMore
attribute [local go_sem] max2_int min2_int max_two min_two max_three min_three max_four min_four
set_option linter.unusedVariables false
set_option linter.unusedSimpArgs false
def fuseeref01_Div.f (a0 : Int) (a1 : Int) : Option (Int × Int) := if a1 = 0 then (none) else (if a0 < 0 then (if (wrap64 ((wrap64 (Int.tdiv a0 a1)) * a1)) = a0 then (some (wrap64 (Int.tdiv a0 a1), wrap64 (a0 - (wrap64 ((wrap64 (Int.tdiv a0 a1)) * a1))))) else (some (wrap64 ((wrap64 (Int.tdiv a0 a1)) - 1), wrap64 (a0 - (wrap64 ((wrap64 ((wrap64 (Int.tdiv a0 a1)) - 1)) * a1)))))) else (some (wrap64 (Int.tdiv a0 a1), wrap64 (a0 - (wrap64 ((wrap64 (Int.tdiv a0 a1)) * a1))))))
theorem fuseeref01_Div.calls (a0 : Int) (a1 : Int) (r1 : Int) (r2 : Int) (w : World) (h : fuseeref01_Div.f a0 a1 = some (r1, r2)) :
  Calls Tryz.prog 147 #[.int .i64 a0, .int .i64 a1] w fun e w' => e = .returned (.tuple #[.int .i64 r1, .int .i64 r2]) ∧ Drawn0 w w' := by
 have H := h; clear h
 unfold fuseeref01_Div.f at H
 by_cases c3 : a1 = 0
 ·rw [if_pos c3] at H; exact absurd H (by simp)
 ·rw [if_neg c3] at H; have c3b0 : (a1 == 0) = false := beq_eq_false_iff_ne.mpr c3; have c3b1 : (a1 != 0) = true := bne_iff_ne.mpr c3
  by_cases c4 : a0 < 0
  ·rw [if_pos c4] at H; have c4b0 : decide (a0 < 0) = true := decide_eq_true c4; clear c4
   by_cases c5 : (wrap64 ((wrap64 (Int.tdiv a0 a1)) * a1)) = a0
   ·rw [if_pos c5] at H; have c5b0 : ((wrap64 ((wrap64 (Int.tdiv a0 a1)) * a1)) == a0) = true := beq_iff_eq.mpr c5; have c5b1 : ((wrap64 ((wrap64 (Int.tdiv a0 a1)) * a1)) != a0) = false := bne_eq_false_iff_eq.mpr c5; clear c5; simp only [Option.some.injEq, Prod.mk.injEq] at H; obtain ⟨rfl, rfl⟩ := H
    go_enter Tryz.func147, Tryz.ntmps147
    go_wp2
    go_ret2
    exact ed_
   ·rw [if_neg c5] at H; have c5b0 : ((wrap64 ((wrap64 (Int.tdiv a0 a1)) * a1)) == a0) = false := beq_eq_false_iff_ne.mpr c5; have c5b1 : ((wrap64 ((wrap64 (Int.tdiv a0 a1)) * a1)) != a0) = true := bne_iff_ne.mpr c5; simp only [Option.some.injEq, Prod.mk.injEq] at H; obtain ⟨rfl, rfl⟩ := H
    go_enter Tryz.func147, Tryz.ntmps147
    go_wp2
    go_ret2
    exact ed_
  ·rw [if_neg c4] at H; have c4b0 : decide (a0 < 0) = false := decide_eq_false c4; clear c4; simp only [Option.some.injEq, Prod.mk.injEq] at H; obtain ⟨rfl, rfl⟩ := H
   go_enter Tryz.func147, Tryz.ntmps147
   go_wp2
   go_ret2
   exact ed_
end Go.Proofs.YtfjifhkgifefeaaGreatDoor.PT
end

section
namespace Go.Proofs.YtfjifhkgifefeaaGreatDoor.PT
open Giv PA Go.RowKit YtfjifhkgifefeaaGreatDoorW.PrintWords YtfjifhkgifefeaaGreatDoorW.PrintLast YtfjifhkgifefeaaGreatDoorW.PrintMore
attribute [local go_sem] max2_int min2_int max_two min_two max_three min_three max_four min_four
set_option linter.unusedVariables false
set_option linter.unusedSimpArgs false
def fuseeref43_May.f (a0_0 : Int) (a0_1 : Int) : Option (Bool) := if a0_0 > (-4611686018427387904) then (if a0_0 < 4611686018427387904 then (if a0_1 ≥ (-86399) then (some (decide (a0_1 ≤ 86399))) else (some false)) else (some false)) else (some false)
theorem fuseeref43_May.calls (a0_0 : Int) (a0_1 : Int) (r : Bool) (w : World) (h : fuseeref43_May.f a0_0 a0_1 = some r) :
  Calls Tryz.prog 90 #[.agg #[.int .i64 a0_0, .int .i64 a0_1]] w fun e w' => e = .returned (.bool r) ∧ Below w.heap.size w w' := by
 have hu140 := Tryz.underlying140; have HB := Aside0.mk (Below.refl w.heap.size w); have H := h; clear h; replace H : (if a0_0 > (-4611686018427387904) then (if a0_0 < 4611686018427387904 then (if a0_1 ≥ (-86399) then (some (decide (a0_1 ≤ 86399))) else (some false)) else (some false)) else (some false)) = some r := H
 by_cases c2 : a0_0 > (-4611686018427387904)
 ·rw [if_pos c2] at H; have c2b0 : decide ((-4611686018427387904) < a0_0) = true := decide_eq_true c2; clear c2
  by_cases c3 : a0_0 < 4611686018427387904
  ·rw [if_pos c3] at H; have c3b0 : decide (a0_0 < 4611686018427387904) = true := decide_eq_true c3; clear c3
   by_cases c4 : a0_1 ≥ (-86399)
   ·rw [if_pos c4] at H; have c4b0 : decide ((-86399) ≤ a0_1) = true := decide_eq_true c4; clear c4
    obtain rfl := Option.some.inj H
    go_enter Tryz.func90, Tryz.ntmps90
    go_wp2_with (first | ((with_reducible refine gate_dst (N := 1) rfl ?_); refine be_ (N := 1) (cs := #[.int .i64 a0_0, .int .i64 a0_1]) (t := 140) ?_; intro gb181 hg w5 hbox hb; have BK181 := Aside0.mk hbox; have GW181 := Aside0.mk (sz_ hg : w.heap.size ≤ gb181); have GE181 := GW181; replace HB := bs_ hb; clear hb hbox hg; have hcz6_0 : w5.cell? ⟨gb181, 0, none⟩ = some (.int .i64 a0_0) := (blk_cell BK181.out 0).trans rfl; have hcz6_1 : w5.cell? ⟨gb181, 1, none⟩ = some (.int .i64 a0_1) := (blk_cell BK181.out 1).trans rfl; have hfz6_0 := blk_frozen BK181.out 0; have hfz6_1 := blk_frozen BK181.out 1))
    go_ret
    exact en_
   ·rw [if_neg c4] at H; have c4b0 : decide ((-86399) ≤ a0_1) = false := decide_eq_false c4; clear c4
    obtain rfl := Option.some.inj H
    go_enter Tryz.func90, Tryz.ntmps90
    go_wp2_with (first | ((with_reducible refine gate_dst (N := 1) rfl ?_); refine be_ (N := 1) (cs := #[.int .i64 a0_0, .int .i64 a0_1]) (t := 140) ?_; intro gb181 hg w7 hbox hb; have BK181 := Aside0.mk hbox; have GW181 := Aside0.mk (sz_ hg : w.heap.size ≤ gb181); have GE181 := GW181; replace HB := bs_ hb; clear hb hbox hg; have hcz8_0 : w7.cell? ⟨gb181, 0, none⟩ = some (.int .i64 a0_0) := (blk_cell BK181.out 0).trans rfl; have hcz8_1 : w7.cell? ⟨gb181, 1, none⟩ = some (.int .i64 a0_1) := (blk_cell BK181.out 1).trans rfl; have hfz8_0 := blk_frozen BK181.out 0; have hfz8_1 := blk_frozen BK181.out 1))
    go_ret
    exact en_
  ·rw [if_neg c3] at H; have c3b0 : decide (a0_0 < 4611686018427387904) = false := decide_eq_false c3; clear c3
   obtain rfl := Option.some.inj H
   go_enter Tryz.func90, Tryz.ntmps90
   go_wp2_with (first | ((with_reducible refine gate_dst (N := 1) rfl ?_); refine be_ (N := 1) (cs := #[.int .i64 a0_0, .int .i64 a0_1]) (t := 140) ?_; intro gb181 hg w9 hbox hb; have BK181 := Aside0.mk hbox; have GW181 := Aside0.mk (sz_ hg : w.heap.size ≤ gb181); have GE181 := GW181; replace HB := bs_ hb; clear hb hbox hg; have hcz10_0 : w9.cell? ⟨gb181, 0, none⟩ = some (.int .i64 a0_0) := (blk_cell BK181.out 0).trans rfl; have hcz10_1 : w9.cell? ⟨gb181, 1, none⟩ = some (.int .i64 a0_1) := (blk_cell BK181.out 1).trans rfl; have hfz10_0 := blk_frozen BK181.out 0; have hfz10_1 := blk_frozen BK181.out 1))
   go_ret
   exact en_
 ·rw [if_neg c2] at H; have c2b0 : decide ((-4611686018427387904) < a0_0) = false := decide_eq_false c2; clear c2
  obtain rfl := Option.some.inj H
  go_enter Tryz.func90, Tryz.ntmps90
  go_wp2_with (first | ((with_reducible refine gate_dst (N := 1) rfl ?_); refine be_ (N := 1) (cs := #[.int .i64 a0_0, .int .i64 a0_1]) (t := 140) ?_; intro gb181 hg w11 hbox hb; have BK181 := Aside0.mk hbox; have GW181 := Aside0.mk (sz_ hg : w.heap.size ≤ gb181); have GE181 := GW181; replace HB := bs_ hb; clear hb hbox hg; have hcz12_0 : w11.cell? ⟨gb181, 0, none⟩ = some (.int .i64 a0_0) := (blk_cell BK181.out 0).trans rfl; have hcz12_1 : w11.cell? ⟨gb181, 1, none⟩ = some (.int .i64 a0_1) := (blk_cell BK181.out 1).trans rfl; have hfz12_0 := blk_frozen BK181.out 0; have hfz12_1 := blk_frozen BK181.out 1))
  go_ret
  exact en_
end Go.Proofs.YtfjifhkgifefeaaGreatDoor.PT
end

section
namespace Go.Proofs.YtfjifhkgifefeaaGreatDoor.PT
open Giv PA Go.RowKit YtfjifhkgifefeaaGreatDoorW.PrintWords YtfjifhkgifefeaaGreatDoorW.PrintLast YtfjifhkgifefeaaGreatDoorW.PrintMore
attribute [local go_sem] max2_int min2_int max_two min_two max_three min_three max_four min_four
set_option linter.unusedVariables false
set_option linter.unusedSimpArgs false
def fuseeref43_added.j0 : Nat → Int → ByteArray → Option (ByteArray)
 | 0, _, _ => none
 | k + 1, x0, x3 => (fuseeref07_Two.f k (wrap64 (Int.tdiv x0 3600)) 2).bind fun t182 => (if x3.size + t182.size ≤ 9223372036854775807 then (if (x3 ++ t182).size + 1 ≤ 9223372036854775807 then ((fuseeref07_Two.f k (Int.tmod (wrap64 (Int.tdiv x0 60)) 60) 2).bind fun t183 => (if ((x3 ++ t182) ++ (⟨#[58]⟩ : ByteArray)).size + t183.size ≤ 9223372036854775807 then (if (Int.tmod x0 60) > 0 then (if (((x3 ++ t182) ++ (⟨#[58]⟩ : ByteArray)) ++ t183).size + 1 ≤ 9223372036854775807 then ((fuseeref07_Two.f k (Int.tmod x0 60) 2).bind fun t184 => (if ((((x3 ++ t182) ++ (⟨#[58]⟩ : ByteArray)) ++ t183) ++ (⟨#[58]⟩ : ByteArray)).size + t184.size ≤ 9223372036854775807 then (some (((((x3 ++ t182) ++ (⟨#[58]⟩ : ByteArray)) ++ t183) ++ (⟨#[58]⟩ : ByteArray)) ++ t184)) else (none))) else (none)) else (some (((x3 ++ t182) ++ (⟨#[58]⟩ : ByteArray)) ++ t183))) else (none))) else (none)) else (none))
def fuseeref43_added.f (k : Nat) (a0 : Int) : Option (ByteArray) := if a0 < 0 then (fuseeref43_added.j0 k (wrap64 (-a0)) (⟨#[45]⟩ : ByteArray)) else (fuseeref43_added.j0 k a0 (⟨#[43]⟩ : ByteArray))
theorem fuseeref43_added.calls (k : Nat) (a0 : Int) (r : ByteArray) (w : World) (h : fuseeref43_added.f k a0 = some r) :
  Calls Tryz.prog 148 #[.int .i64 a0] w fun e w' => e = .returned (.string r) ∧ Drawn0 w w' := by
 have H := h; clear h; replace H : (if a0 < 0 then (fuseeref43_added.j0 k (wrap64 (-a0)) (⟨#[45]⟩ : ByteArray)) else (fuseeref43_added.j0 k a0 (⟨#[43]⟩ : ByteArray))) = some r := H; have HC2 := Aside0.mk H; clear H
 go_enter Tryz.func148, Tryz.ntmps148
 go_upto_if 6 with (fail)
 go_cut [0, 3] (fun v0 v3 wc => ∃ (kq : Nat) (x0_1 : Int) (x3_1 : ByteArray), v0 = .int .i64 x0_1 ∧ v3 = .string x3_1 ∧ Aside0 (fuseeref43_added.j0 kq x0_1 x3_1 = some r) ∧ Aside0 (kq ≤ k) ∧ Drawn0 w wc)
 case first =>
  have H := HC2.out; clear HC2
  by_cases c3 : a0 < 0
  ·rw [if_pos c3] at H; have c3b0 : decide (a0 < 0) = true := decide_eq_true c3; clear c3
   (first | rw [c3b0] | (simp only [i64_w, i32_w]; rw [c3b0]) | skip)
   have H' := Aside0.mk H; clear H
   go_wp2
   go_meet
   case rel => exact ⟨_, (wrap64 (-a0)), ((⟨#[45]⟩ : ByteArray)), rs_, rs_, H', ⟨by first | omega | exact Nat.le_refl _⟩, by repeat (first | exact Drawn0.refl _ | apply Drawn0.step)⟩
  ·rw [if_neg c3] at H; have c3b0 : decide (a0 < 0) = false := decide_eq_false c3; clear c3
   (first | rw [c3b0] | (simp only [i64_w, i32_w]; rw [c3b0]) | skip)
   have H' := Aside0.mk H; clear H
   go_wp2
   go_meet
   case rel => exact ⟨_, (a0), ((⟨#[43]⟩ : ByteArray)), rs_, rs_, H', ⟨by first | omega | exact Nat.le_refl _⟩, by repeat (first | exact Drawn0.refl _ | apply Drawn0.step)⟩
 case rest =>
  clear HC2; (try clear c1); (try clear p2); (try clear c3); (try clear c3b0); obtain ⟨kq, x0_1, x3_1, rfl, rfl, HA, HJ1, ⟨mc1, rfl⟩⟩ := hcut
  cases kq with
  | zero => exact absurd HA.out (by simp [fuseeref43_added.j0])
  | succ kj1 =>
   have H := HA.out; clear HA; simp only [fuseeref43_added.j0] at H; replace H := Option.bind_eq_some_iff.mp H; obtain ⟨t182, A40, H⟩ := H; (try dsimp only at H); have A4 := Aside0.mk A40; clear A40
   by_cases c5 : x3_1.size + t182.size ≤ 9223372036854775807
   ·rw [if_pos c5] at H; have c5b0 := eq_true c5; have c5b1 : decide (x3_1.size + t182.size ≤ 9223372036854775807) = true := decide_eq_true c5
    try have c5b2 : (9223372036854775807 < x3_1.size + t182.size) = False := eq_false (Nat.not_lt.2 c5)
    by_cases c6 : (x3_1 ++ t182).size + 1 ≤ 9223372036854775807
    ·rw [if_pos c6] at H; have c6b0 := eq_true c6; have c6b1 : decide ((x3_1 ++ t182).size + 1 ≤ 9223372036854775807) = true := decide_eq_true c6
     try have c6b2 : (9223372036854775807 < (x3_1 ++ t182).size + 1) = False := eq_false (Nat.not_lt.2 c6)
     try have c6b3 : (9223372036854775807 < x3_1.size + t182.size + 1) = False := eq_false (by have q_ := c6; simp only [ByteArray.size_append] at q_; exact Nat.not_lt.2 q_)
     replace H := Option.bind_eq_some_iff.mp H; obtain ⟨t183, A70, H⟩ := H; (try dsimp only at H); have A7 := Aside0.mk A70; clear A70
     by_cases c8 : ((x3_1 ++ t182) ++ (⟨#[58]⟩ : ByteArray)).size + t183.size ≤ 9223372036854775807
     ·rw [if_pos c8] at H; have c8b0 := eq_true c8; have c8b1 : decide (((x3_1 ++ t182) ++ (⟨#[58]⟩ : ByteArray)).size + t183.size ≤ 9223372036854775807) = true := decide_eq_true c8
      try have c8b2 : (9223372036854775807 < ((x3_1 ++ t182) ++ (⟨#[58]⟩ : ByteArray)).size + t183.size) = False := eq_false (Nat.not_lt.2 c8)
      try have c8b3 : (9223372036854775807 < x3_1.size + t182.size + 1 + t183.size) = False := eq_false (by have q_ := c8; simp only [ByteArray.size_append] at q_; exact Nat.not_lt.2 q_)
      by_cases c9 : (Int.tmod x0_1 60) > 0
      ·rw [if_pos c9] at H; have c9b0 : decide (0 < (Int.tmod x0_1 60)) = true := decide_eq_true c9; clear c9
       by_cases c10 : (((x3_1 ++ t182) ++ (⟨#[58]⟩ : ByteArray)) ++ t183).size + 1 ≤ 9223372036854775807
       ·rw [if_pos c10] at H; have c10b0 := eq_true c10; have c10b1 : decide ((((x3_1 ++ t182) ++ (⟨#[58]⟩ : ByteArray)) ++ t183).size + 1 ≤ 9223372036854775807) = true := decide_eq_true c10
        try have c10b2 : (9223372036854775807 < (((x3_1 ++ t182) ++ (⟨#[58]⟩ : ByteArray)) ++ t183).size + 1) = False := eq_false (Nat.not_lt.2 c10)
        try have c10b3 : (9223372036854775807 < x3_1.size + t182.size + 1 + t183.size + 1) = False := eq_false (by have q_ := c10; simp only [ByteArray.size_append] at q_; exact Nat.not_lt.2 q_)
        replace H := Option.bind_eq_some_iff.mp H; obtain ⟨t184, A110, H⟩ := H; (try dsimp only at H); have A11 := Aside0.mk A110; clear A110
        by_cases c12 : ((((x3_1 ++ t182) ++ (⟨#[58]⟩ : ByteArray)) ++ t183) ++ (⟨#[58]⟩ : ByteArray)).size + t184.size ≤ 9223372036854775807
        ·rw [if_pos c12] at H; have c12b0 := eq_true c12; have c12b1 : decide (((((x3_1 ++ t182) ++ (⟨#[58]⟩ : ByteArray)) ++ t183) ++ (⟨#[58]⟩ : ByteArray)).size + t184.size ≤ 9223372036854775807) = true := decide_eq_true c12
         try have c12b2 : (9223372036854775807 < ((((x3_1 ++ t182) ++ (⟨#[58]⟩ : ByteArray)) ++ t183) ++ (⟨#[58]⟩ : ByteArray)).size + t184.size) = False := eq_false (Nat.not_lt.2 c12)
         try have c12b3 : (9223372036854775807 < x3_1.size + t182.size + 1 + t183.size + 1 + t184.size) = False := eq_false (by have q_ := c12; simp only [ByteArray.size_append] at q_; exact Nat.not_lt.2 q_)
         obtain rfl := Option.some.inj H
         go_wp2_with (first | ((with_reducible refine gate_callee (f := 99) rfl ?_); refine gc_ (some 13) Tryz.func99 (fuseeref07_Two.calls kj1 (wrap64 (Int.tdiv x0_1 3600)) 2 t182 _ A4.out) ?_; rintro e w' ⟨rfl, ⟨nd, rfl⟩⟩; refine ⟨_, rfl, ?_⟩) | ((with_reducible refine gate_callee (f := 99) rfl ?_); refine gc_ (some 19) Tryz.func99 (fuseeref07_Two.calls kj1 (Int.tmod (wrap64 (Int.tdiv x0_1 60)) 60) 2 t183 _ A7.out) ?_; rintro e w' ⟨rfl, ⟨nd, rfl⟩⟩; refine ⟨_, rfl, ?_⟩) | ((with_reducible refine gate_callee (f := 99) rfl ?_); refine gc_ (some 28) Tryz.func99 (fuseeref07_Two.calls kj1 (Int.tmod x0_1 60) 2 t184 _ A11.out) ?_; rintro e w' ⟨rfl, ⟨nd, rfl⟩⟩; refine ⟨_, rfl, ?_⟩))
         go_ret
         exact ed_
        ·rw [if_neg c12] at H; exact absurd H (by simp)
       ·rw [if_neg c10] at H; exact absurd H (by simp)
      ·rw [if_neg c9] at H; have c9b0 : decide (0 < (Int.tmod x0_1 60)) = false := decide_eq_false c9; clear c9
       obtain rfl := Option.some.inj H
       go_wp2_with (first | ((with_reducible refine gate_callee (f := 99) rfl ?_); refine gc_ (some 13) Tryz.func99 (fuseeref07_Two.calls kj1 (wrap64 (Int.tdiv x0_1 3600)) 2 t182 _ A4.out) ?_; rintro e w' ⟨rfl, ⟨nd, rfl⟩⟩; refine ⟨_, rfl, ?_⟩) | ((with_reducible refine gate_callee (f := 99) rfl ?_); refine gc_ (some 19) Tryz.func99 (fuseeref07_Two.calls kj1 (Int.tmod (wrap64 (Int.tdiv x0_1 60)) 60) 2 t183 _ A7.out) ?_; rintro e w' ⟨rfl, ⟨nd, rfl⟩⟩; refine ⟨_, rfl, ?_⟩))
       go_ret
       exact ed_
     ·rw [if_neg c8] at H; exact absurd H (by simp)
    ·rw [if_neg c6] at H; exact absurd H (by simp)
   ·rw [if_neg c5] at H; exact absurd H (by simp)
end Go.Proofs.YtfjifhkgifefeaaGreatDoor.PT
end

section
namespace Go.Proofs.YtfjifhkgifefeaaGreatDoor.PT
open Giv PA Go.RowKit YtfjifhkgifefeaaGreatDoorW.PrintWords YtfjifhkgifefeaaGreatDoorW.PrintLast YtfjifhkgifefeaaGreatDoorW.PrintMore
attribute [local go_sem] max2_int min2_int max_two min_two max_three min_three max_four min_four
set_option linter.unusedVariables false
set_option linter.unusedSimpArgs false
def fuseeref43_Text.f (k : Nat) (a0_0 : Int) (a0_1 : Int) : Option (ByteArray × Int) := (fuseeref43_May.f a0_0 a0_1).bind fun t186 => (if t186 = true then ((fuseeref01_Div.f a0_0 1000000000).bind fun bt187 => ((fuseeref01_Div.f (wrap64 (bt187.1 + a0_1)) 86400).bind fun bt189 => ((fuseeref08_Stamp.f k bt189.1 bt189.2 bt187.2).bind fun bt191 => ((fuseeref43_added.f k a0_1).bind fun t193 => (if bt191.1.size + t193.size ≤ 9223372036854775807 then (some (bt191.1 ++ t193, 0)) else (none)))))) else (some ((⟨#[]⟩ : ByteArray), 1)))
theorem fuseeref43_Text.calls (k : Nat) (a0_0 : Int) (a0_1 : Int) (r1 : ByteArray) (r2 : Int) (w : World) (h : fuseeref43_Text.f k a0_0 a0_1 = some (r1, r2)) :
  Calls Tryz.prog 81 #[.agg #[.int .i64 a0_0, .int .i64 a0_1]] w fun e w' => e = .returned (.tuple #[.string r1, .int .i64 r2]) ∧ Below w.heap.size w w' := by
 have hu140 := Tryz.underlying140; have HB := Aside0.mk (Below.refl w.heap.size w); have H := h; clear h
 unfold fuseeref43_Text.f at H
 replace H := Option.bind_eq_some_iff.mp H; obtain ⟨t186, A20, H⟩ := H; (try dsimp only at H); have A2 := Aside0.mk A20; clear A20
 by_cases c3 : t186 = true
 ·subst c3
  have H1 : ((fuseeref01_Div.f a0_0 1000000000).bind fun bt187 => ((fuseeref01_Div.f (wrap64 (bt187.1 + a0_1)) 86400).bind fun bt189 => ((fuseeref08_Stamp.f k bt189.1 bt189.2 bt187.2).bind fun bt191 => ((fuseeref43_added.f k a0_1).bind fun t193 => (if bt191.1.size + t193.size ≤ 9223372036854775807 then (some (bt191.1 ++ t193, 0)) else (none)))))) = some (r1, r2) := by rw [if_pos rfl] at H; exact H
  clear H; have H := H1; clear H1; replace H := Option.bind_eq_some_iff.mp H; obtain ⟨⟨t187, t188⟩, A40, H⟩ := H; (try dsimp only at H); have A4 := Aside0.mk A40; clear A40; replace H := Option.bind_eq_some_iff.mp H; obtain ⟨⟨t189, t190⟩, A50, H⟩ := H; (try dsimp only at H); have A5 := Aside0.mk A50; clear A50; replace H := Option.bind_eq_some_iff.mp H; obtain ⟨⟨t191, t192⟩, A60, H⟩ := H; (try dsimp only at H); have A6 := Aside0.mk A60; clear A60; replace H := Option.bind_eq_some_iff.mp H; obtain ⟨t193, A70, H⟩ := H; (try dsimp only at H); have A7 := Aside0.mk A70; clear A70
  by_cases c8 : t191.size + t193.size ≤ 9223372036854775807
  ·rw [if_pos c8] at H; have c8b0 := eq_true c8; have c8b1 : decide (t191.size + t193.size ≤ 9223372036854775807) = true := decide_eq_true c8
   try have c8b2 : (9223372036854775807 < t191.size + t193.size) = False := eq_false (Nat.not_lt.2 c8)
   simp only [Option.some.injEq, Prod.mk.injEq] at H; obtain ⟨rfl, rfl⟩ := H
   go_enter Tryz.func81, Tryz.ntmps81
   go_wp2_with (first | ((with_reducible refine gate_dst (N := 1) rfl ?_); refine be_ (N := 1) (cs := #[.int .i64 a0_0, .int .i64 a0_1]) (t := 140) ?_; intro gb185 hg w9 hbox hb; have BK185 := Aside0.mk hbox; have GW185 := Aside0.mk (sz_ hg : w.heap.size ≤ gb185); have GE185 := GW185; replace HB := bs_ hb; clear hb hbox hg; have hcz10_0 : w9.cell? ⟨gb185, 0, none⟩ = some (.int .i64 a0_0) := (blk_cell BK185.out 0).trans rfl; have hcz10_1 : w9.cell? ⟨gb185, 1, none⟩ = some (.int .i64 a0_1) := (blk_cell BK185.out 1).trans rfl; have hfz10_0 := blk_frozen BK185.out 0; have hfz10_1 := blk_frozen BK185.out 1) | ((with_reducible refine gate_callee (f := 90) rfl ?_); refine gd_ (some 11) Tryz.func90 (fuseeref43_May.calls a0_0 a0_1 true _ A2.out) ?_; intro w11 hb; replace BK185 := bb_ BK185.out hb; replace HB := bs_ hb; (try clear hb); have hcz12_0 : w11.cell? ⟨gb185, 0, none⟩ = some (.int .i64 a0_0) := (blk_cell BK185.out 0).trans rfl; have hcz12_1 : w11.cell? ⟨gb185, 1, none⟩ = some (.int .i64 a0_1) := (blk_cell BK185.out 1).trans rfl; have hfz12_0 := blk_frozen BK185.out 0; have hfz12_1 := blk_frozen BK185.out 1) | ((with_reducible refine gate_callee (f := 147) rfl ?_); refine gc_ (some 16) Tryz.func147 (fuseeref01_Div.calls a0_0 1000000000 t187 t188 _ A4.out) ?_; rintro e w' ⟨rfl, ⟨nd, rfl⟩⟩; refine ⟨_, rfl, ?_⟩) | ((with_reducible refine gate_callee (f := 147) rfl ?_); refine gc_ (some 24) Tryz.func147 (fuseeref01_Div.calls (wrap64 (t187 + a0_1)) 86400 t189 t190 _ A5.out) ?_; rintro e w' ⟨rfl, ⟨nd, rfl⟩⟩; refine ⟨_, rfl, ?_⟩) | ((with_reducible refine gate_callee (f := 40) rfl ?_); refine gd_ (some 31) Tryz.func40 (fuseeref08_Stamp.calls k t189 t190 t188 t191 t192 _ A6.out) ?_; intro w13 hb; replace BK185 := bb_ BK185.out hb; replace HB := bs_ hb; have hcz14_0 : w13.cell? ⟨gb185, 0, none⟩ = some (.int .i64 a0_0) := (blk_cell BK185.out 0).trans rfl; have hcz14_1 : w13.cell? ⟨gb185, 1, none⟩ = some (.int .i64 a0_1) := (blk_cell BK185.out 1).trans rfl; have hfz14_0 := blk_frozen BK185.out 0; have hfz14_1 := blk_frozen BK185.out 1) | ((with_reducible refine gate_callee (f := 148) rfl ?_); refine gc_ (some 37) Tryz.func148 (fuseeref43_added.calls k a0_1 t193 _ A7.out) ?_; rintro e w' ⟨rfl, ⟨nd, rfl⟩⟩; refine ⟨_, rfl, ?_⟩))
   go_ret2
   exact en_
  ·rw [if_neg c8] at H; exact absurd H (by simp)
 ·replace c3 := Bool.eq_false_iff.mpr c3; subst c3
  have H1 : (some ((⟨#[]⟩ : ByteArray), 1)) = some (r1, r2) := by rw [if_neg (show ¬ (false = true) by decide)] at H; exact H
  clear H; have H := H1; clear H1; simp only [Option.some.injEq, Prod.mk.injEq] at H; obtain ⟨rfl, rfl⟩ := H
  go_enter Tryz.func81, Tryz.ntmps81
  go_wp2_with (first | ((with_reducible refine gate_dst (N := 1) rfl ?_); refine be_ (N := 1) (cs := #[.int .i64 a0_0, .int .i64 a0_1]) (t := 140) ?_; intro gb185 hg w15 hbox hb; have BK185 := Aside0.mk hbox; have GW185 := Aside0.mk (sz_ hg : w.heap.size ≤ gb185); have GE185 := GW185; replace HB := bs_ hb; clear hb hbox hg; have hcz16_0 : w15.cell? ⟨gb185, 0, none⟩ = some (.int .i64 a0_0) := (blk_cell BK185.out 0).trans rfl; have hcz16_1 : w15.cell? ⟨gb185, 1, none⟩ = some (.int .i64 a0_1) := (blk_cell BK185.out 1).trans rfl; have hfz16_0 := blk_frozen BK185.out 0; have hfz16_1 := blk_frozen BK185.out 1) | ((with_reducible refine gate_callee (f := 90) rfl ?_); refine gd_ (some 11) Tryz.func90 (fuseeref43_May.calls a0_0 a0_1 false _ A2.out) ?_; intro w17 hb; replace BK185 := bb_ BK185.out hb; replace HB := bs_ hb; (try clear hb)))
  go_ret2
  exact en_
end Go.Proofs.YtfjifhkgifefeaaGreatDoor.PT
end

section
/- What the printed told.Text and the document's Text answer: a stamp, and what is added. -/
namespace Go.Proofs.YtfjifhkgifefeaaGreatDoor.CivP
open Go.RowKit Go.Proofs.YtfjifhkgifefeaaGreatDoor.PA Go.Proofs.YtfjifhkgifefeaaGreatDoor.PT Go.Proofs.YtfjifhkgifefeaaGreatDoor.CivM Go.Proofs.YtfjifhkgifefeaaGreatDoor.StrM Go.Proofs.YtfjifhkgifefeaaGreatDoor.Giv Go.Proofs.YtfjifhkgifefeaaGreatDoorW.PrintWords
def may43 (a b : Int) : Prop := -4611686018427387904 < a ∧ a < 4611686018427387904 ∧ -86399 ≤ b ∧ b ≤ 86399
instance (a b : Int) : Decidable (may43 a b) := by unfold may43; infer_instance
theorem nsize (a : Int) (h0 : -9223372036854775808 ≤ a) (h1 : a ≤ 9223372036854775807) : num_Size.f a = some (if a < 0 then (if a = -9223372036854775808 then 9223372036854775807 else -a) else a) := by
  unfold num_Size.f
  by_cases c : a < 0
  · rw [if_pos c, if_pos c]
    unfold num_SubSat.f num_Sub.f
    by_cases d : a = -9223372036854775808
    · subst d; decide +kernel
    · rw [if_neg d, wid (by omega) (by omega)]; rw [decide_eq_true (by omega : 0 - a > 0), decide_eq_true c]
      simp
  · rw [if_neg c, if_neg c]
theorem tdcheck (a b : Int) (h0 : -9223372036854775808 ≤ a) (h1 : a ≤ 9223372036854775807) (g0 : -9223372036854775808 ≤ b) (g1 : b ≤ 9223372036854775807) : told_Check.f a b = some (if may43 a b then none else some 1) := by
  unfold told_Check.f
  rw [nsize a h0 h1, nsize b g0 g1]; simp only [Option.bind_some]
  by_cases c : (if a < 0 then (if a = -9223372036854775808 then 9223372036854775807 else -a) else a) ≥ 4611686018427387904
  · rw [if_pos c, if_neg]
    intro h; unfold may43 at h
    revert c
    split
    · rw [if_neg (by omega)]; omega
    · omega
  · rw [if_neg c]
    by_cases d : (if b < 0 then (if b = -9223372036854775808 then 9223372036854775807 else -b) else b) > 86399
    · rw [if_pos d, if_neg]
      intro h; unfold may43 at h
      revert d
      split
      · rw [if_neg (by omega)]; omega
      · omega
    · rw [if_neg d, if_pos]
      unfold may43
      revert c d
      (repeat' split) <;> omega
theorem rdmay (a b : Int) : fuseeref43_May.f a b = some (decide (may43 a b)) := by
  unfold fuseeref43_May.f may43
  by_cases c1 : a > -4611686018427387904
  · rw [if_pos c1]
    by_cases c2 : a < 4611686018427387904
    · rw [if_pos c2]
      by_cases c3 : b ≥ -86399
      · rw [if_pos c3]; exact some_dec (by simp; omega)
      · rw [if_neg c3]; exact some_dec (by simp; omega)
    · rw [if_neg c2]; exact some_dec (by simp; omega)
  · rw [if_neg c1]; exact some_dec (by simp; omega)
theorem rdiv (a b : Int) (ha : -9223372036854775808 ≤ a) (ha2 : a ≤ 9223372036854775807) (hb : 1 < b) (hb2 : b ≤ 9223372036854775807) : fuseeref01_Div.f a b = some (a / b, a % b) := by
  have hm := Int.emod_nonneg a (show b ≠ 0 by omega); have hm2 := Int.emod_lt_of_pos a (show 0 < b by omega); have he := Int.mul_ediv_add_emod a b
  have hq : a / b * b = a - a % b := by rw [Int.mul_comm]; omega
  unfold fuseeref01_Div.f
  rw [if_neg (by omega)]
  by_cases c : a < 0
  · rw [if_pos c]
    have ht : Int.tdiv a b = -((-a) / b) := by rw [← tdv (by omega : 0 ≤ -a), Int.neg_tdiv, Int.neg_neg]
    have g0 : 0 ≤ (-a) / b := Int.ediv_nonneg (by omega) (by omega); have g1 : (-a) / b ≤ 4611686018427387904 := Int.ediv_le_of_le_mul (by omega) (by omega); have f0 := Int.mul_ediv_add_emod (-a) b; have f1 := Int.emod_nonneg (-a) (show b ≠ 0 by omega); have f2 := Int.emod_lt_of_pos (-a) (show 0 < b by omega)
    have fq : (-a) / b * b = -a - (-a) % b := by rw [Int.mul_comm]; omega
    rw [ht, wid (x := -((-a) / b)) (by omega) (by omega), Int.neg_mul, fq, wid (x := -(-a - (-a) % b)) (by omega) (by omega)]
    by_cases d : -(-a - (-a) % b) = a
    · rw [if_pos d]
      have e0 : a % b = 0 := by
        have : (-a) % b = 0 := by omega
        have hd := Int.dvd_of_emod_eq_zero this
        exact Int.emod_eq_zero_of_dvd (by simpa using (Int.dvd_neg.1 hd))
      have e1 : -((-a) / b) = a / b := by
        have : (a / b) * b = (-((-a) / b)) * b := by rw [hq, Int.neg_mul, fq]; omega
        exact (Int.mul_eq_mul_right_iff (show b ≠ 0 by omega)).1 this.symm
      rw [wid (by omega) (by omega), e1, e0]
      congr 2; omega
    · rw [if_neg d]
      have e1 : -((-a) / b) - 1 = a / b := by
        have hlt : 0 < (-a) % b := by omega
        have hm3 : b * (-((-a) / b) - 1) = -(b * ((-a) / b)) - b := by rw [Int.mul_sub, Int.mul_neg, Int.mul_one]
        exact ((Int.ediv_emod_unique (show 0 < b by omega)).2 ⟨by rw [hm3]; omega, (by omega : 0 ≤ b - (-a) % b), by omega⟩).1.symm
      rw [wid (x := -((-a) / b) - 1) (by omega) (by omega), e1]; rw [hq]; have b1 : -9223372036854775808 ≤ a - a % b ∨ True := .inr trivial
      by_cases w : -9223372036854775808 ≤ a - a % b
      · rw [wid (x := a - a % b) (by omega) (by omega), wid (by omega) (by omega)]
        congr 2; omega
      · have hw : wrap64 (a - a % b) = a - a % b + 18446744073709551616 := by unfold wrap64; omega
        rw [hw]
        have hw2 : wrap64 (a - (a - a % b + 18446744073709551616)) = a % b := by unfold wrap64; omega
        rw [hw2]
  · rw [if_neg c]; rw [tdv (by omega : 0 ≤ a)]; have g0 : 0 ≤ a / b := Int.ediv_nonneg (by omega) (by omega); have g1 : a / b ≤ a := Int.ediv_le_self _ (by omega); rw [wid (x := a / b) (by omega) (by omega), hq, wid (x := a - a % b) (by omega) (by omega), wid (by omega) (by omega)]
    congr 2; omega
theorem itoa1 (d : Int) (h0 : 0 ≤ d) (h1 : d ≤ 9) : Lib.itoa d = [dg d] := by
  obtain ⟨u, rfl⟩ : ∃ u : Nat, d = u := ⟨d.toNat, by omega⟩
  unfold Lib.itoa
  rw [if_neg (by omega), Int.toNat_natCast, dd1 u (by omega)]
theorem digs2_eq (n : Int) (h0 : 0 ≤ n) (h1 : n ≤ 99) : digs 2 n = [dg (n / 10), dg (n % 10)] := by
  have e : n / 10 % 10 = n / 10 := by omega
  simp [digs, e]
theorem ttwo (n : Int) (h0 : 0 ≤ n) (h1 : n ≤ 99) : told_two.f n = some ⟨(digs 2 n).toArray⟩ := by
  unfold told_two.f strconv_FormatInt.f
  rw [tdv h0, tmd h0, wid (by omega) (by omega), if_pos ⟨rfl, by omega, by omega⟩, if_pos ⟨rfl, by omega, by omega⟩]; simp only [Option.bind_some]; rw [itoa1 _ (by omega) (by omega), itoa1 _ (by omega) (by omega), ba_size, ba_size, if_pos (by simp), ba_app, digs2_eq n h0 h1]
  rfl
def tailT (n : Int) : List UInt8 := digs 2 (n / 3600) ++ 58 :: (digs 2 (n / 60 % 60) ++ (if n % 60 = 0 then [] else 58 :: digs 2 (n % 60)))
def addT (off : Int) : List UInt8 := (if off < 0 then 45 else 43) :: tailT (if off < 0 then -off else off)
theorem tailT_len (n : Int) : (tailT n).length = if n % 60 = 0 then 5 else 8 := by
  unfold tailT
  split <;> simp [digs_len]
theorem addT_len (n : Int) : 6 ≤ (addT n).length ∧ (addT n).length ≤ 9 := by
  unfold addT
  simp only [List.length_cons, tailT_len]
  split <;> split <;> omega
theorem b45 : (⟨#[45]⟩ : ByteArray) = ⟨([45] : List UInt8).toArray⟩ := rfl
theorem b43 : (⟨#[43]⟩ : ByteArray) = ⟨([43] : List UInt8).toArray⟩ := rfl
theorem tadded0 (k : Nat) (c : UInt8) (n : Int) (h0 : 0 ≤ n) (h1 : n ≤ 86399) : told_added.j0 (k + 1) ⟨([c] : List UInt8).toArray⟩ n = some ⟨(c :: tailT n).toArray⟩ := by
  simp only [told_added.j0]; have e3 : Int.tmod n 60 = n % 60 := tmd h0; rw [tdv h0, tdv h0, wid (by omega) (by omega), wid (by omega) (by omega), tmd (by omega : 0 ≤ n / 60), e3]; rw [ttwo _ (by omega) (by omega), ttwo _ (by omega) (by omega)]; simp only [Option.bind_some, ba_app, ba_size, List.length_append, digs_len, List.length_cons, List.length_nil]; rw [if_pos (by omega), if_pos (by omega), if_pos (by omega)]
  by_cases z : n % 60 > 0
  · rw [if_pos z, ttwo _ (by omega) (by omega)]; simp only [Option.bind_some, ba_app, ba_size, List.length_append, digs_len, List.length_cons, List.length_nil]; rw [if_pos (by omega), if_pos (by omega)]
    unfold tailT
    rw [if_neg (by omega)]
    simp
  · rw [if_neg z]
    unfold tailT
    rw [if_pos (by omega)]
    simp
theorem tadded (k : Nat) (off : Int) (hk : 1 ≤ k) (h0 : -86399 ≤ off) (h1 : off ≤ 86399) : told_added.f k off = some ⟨(addT off).toArray⟩ := by
  obtain ⟨k, rfl⟩ : ∃ j, k = j + 1 := ⟨k - 1, by omega⟩
  unfold told_added.f addT
  rw [nsize off (by omega) (by omega)]; simp only [Option.bind_some]
  by_cases c : off < 0
  · rw [if_pos c, if_pos c, if_neg (by omega), b45, tadded0 k 45 _ (by omega) (by omega), if_pos c, if_pos c]
  · rw [if_neg c, if_neg c, b43, tadded0 k 43 _ (by omega) (by omega), if_neg c, if_neg c]
theorem radded0 (k : Nat) (hk : 3 ≤ k) (c : UInt8) (n : Int) (h0 : 0 ≤ n) (h1 : n ≤ 86399) : fuseeref43_added.j0 (k + 1) n ⟨([c] : List UInt8).toArray⟩ = some ⟨(c :: tailT n).toArray⟩ := by
  simp only [fuseeref43_added.j0]; have e3 : Int.tmod n 60 = n % 60 := tmd h0; rw [tdv h0, tdv h0, wid (by omega) (by omega), wid (by omega) (by omega), tmd (by omega : 0 ≤ n / 60), e3]; have t1 : fuseeref07_Two.f k (n / 3600) 2 = some ⟨(digs 2 (n / 3600)).toArray⟩ := two_w k 2 (n / 3600) hk (by omega) (by omega) (by omega); have t2 : fuseeref07_Two.f k (n / 60 % 60) 2 = some ⟨(digs 2 (n / 60 % 60)).toArray⟩ := two_w k 2 (n / 60 % 60) hk (by omega) (by omega) (by omega); have t3 : fuseeref07_Two.f k (n % 60) 2 = some ⟨(digs 2 (n % 60)).toArray⟩ := two_w k 2 (n % 60) hk (by omega) (by omega) (by omega); rw [t1, t2]; simp only [Option.bind_some, ba_app, ba_size, List.length_append, digs_len, List.length_cons, List.length_nil]; rw [if_pos (by omega), if_pos (by omega), if_pos (by omega)]
  by_cases z : n % 60 > 0
  · rw [if_pos z, t3]; simp only [Option.bind_some, ba_app, ba_size, List.length_append, digs_len, List.length_cons, List.length_nil]; rw [if_pos (by omega), if_pos (by omega)]
    unfold tailT
    rw [if_neg (by omega)]
    simp
  · rw [if_neg z]
    unfold tailT
    rw [if_pos (by omega)]
    simp
theorem radded (k : Nat) (off : Int) (hk : 4 ≤ k) (h0 : -86399 ≤ off) (h1 : off ≤ 86399) : fuseeref43_added.f k off = some ⟨(addT off).toArray⟩ := by
  obtain ⟨k, rfl⟩ : ∃ j, k = j + 1 := ⟨k - 1, by omega⟩
  unfold fuseeref43_added.f addT
  by_cases c : off < 0
  · rw [if_pos c, b45, wid (by omega) (by omega), radded0 k (by omega) 45 _ (by omega) (by omega), if_pos c, if_pos c]
  · rw [if_neg c, b43, radded0 k (by omega) 43 _ (by omega) (by omega), if_neg c, if_neg c]
def dayT (a b : Int) : Int := (a / 1000000000 + b) / 86400
def secT (a b : Int) : Int := (a / 1000000000 + b) % 86400
theorem dayT_bd (a b : Int) (h : may43 a b) : -60000 ≤ dayT a b ∧ dayT a b ≤ 60000 := by unfold may43 at h; unfold dayT; omega
theorem ttext_ok (k : Nat) (hk : 6 ≤ k) (a b : Int) (h : may43 a b) : ∃ y m d, vld y m d ∧ num y m d = dayT a b ∧ told_Text.f k a b = some (⟨(stext y m d (secT a b) (a % 1000000000) ++ addT b).toArray⟩, none) := by
  have hd := dayT_bd a b h; obtain ⟨y, m, d, v, hn, -⟩ := of_ok k (dayT a b) (by omega) (by omega) (by omega)
  refine ⟨y, m, d, v, hn, ?_⟩
  have h' := h
  unfold may43 at h'
  have hs : 0 ≤ secT a b ∧ secT a b ≤ 86399 := by unfold secT; omega
  have hst := dstamp_ok k y m d (secT a b) (a % 1000000000) (by omega) v (by omega) (by omega) (by omega) (by omega); rw [hn] at hst
  unfold told_Text.f
  rw [tdcheck a b (by omega) (by omega) (by omega) (by omega), if_pos h]; simp only [Option.bind_some, Option.isNone_none, if_true]; rw [div_any (by omega) (by omega) (by omega) (by omega)]; simp only [Option.bind_some, Option.isNone_none, if_true]; rw [wid (by omega) (by omega), div_any (by omega) (by omega) (by omega) (by omega)]; simp only [Option.bind_some, Option.isNone_none, if_true]; rw [show (a / 1000000000 + b) / 86400 = dayT a b from rfl, show (a / 1000000000 + b) % 86400 = secT a b from rfl, hst]; simp only [Option.bind_some, Option.isNone_none, if_true]; rw [tadded k b (by omega) (by omega) (by omega)]; simp only [Option.bind_some]; have l1 := addT_len b; rw [ba_size, ba_size, ba_app, if_pos (by rw [show (stext y m d (secT a b) (a % 1000000000)).length = 29 by simp [stext, dtext_len v, digs_len]]; omega)]
theorem ttext_no (k : Nat) (a b : Int) (h0 : -9223372036854775808 ≤ a) (h1 : a ≤ 9223372036854775807) (g0 : -9223372036854775808 ≤ b) (g1 : b ≤ 9223372036854775807) (h : ¬ may43 a b) : told_Text.f k a b = some (⟨#[]⟩, some 1) := by
  unfold told_Text.f
  rw [tdcheck a b h0 h1 g0 g1, if_neg h]
  simp
theorem rdtext_ok (k : Nat) (hk : 20010 ≤ k) (a b : Int) (h : may43 a b) (y m d : Int) (v : vld y m d) (hn : num y m d = dayT a b) : fuseeref43_Text.f k a b = some (⟨(stext y m d (secT a b) (a % 1000000000) ++ addT b).toArray⟩, 0) := by
  have hd := dayT_bd a b h; have h' := h
  unfold may43 at h'
  have hs : 0 ≤ secT a b ∧ secT a b ≤ 86399 := by unfold secT; omega
  have hst := rstamp_ok k y m d (secT a b) (a % 1000000000) hk v (by omega) (by omega) (by omega) (by omega); rw [hn] at hst
  unfold fuseeref43_Text.f
  rw [rdmay, decide_eq_true h]; simp only [Option.bind_some, if_true]; rw [rdiv _ _ (by omega) (by omega) (by omega) (by omega)]; simp only [Option.bind_some]; rw [wid (by omega) (by omega), rdiv _ _ (by omega) (by omega) (by omega) (by omega)]; simp only [Option.bind_some]; rw [show (a / 1000000000 + b) / 86400 = dayT a b from rfl, show (a / 1000000000 + b) % 86400 = secT a b from rfl, hst]; simp only [Option.bind_some]; rw [radded k b (by omega) (by omega) (by omega)]; simp only [Option.bind_some]; have l1 := addT_len b; rw [ba_size, ba_size, ba_app, if_pos (by rw [show (stext y m d (secT a b) (a % 1000000000)).length = 29 by simp [stext, dtext_len v, digs_len]]; omega)]
theorem rdtext_no (k : Nat) (a b : Int) (h : ¬ may43 a b) : fuseeref43_Text.f k a b = some (⟨#[]⟩, 1) := by
  unfold fuseeref43_Text.f
  rw [rdmay, decide_eq_false h]
  simp
end Go.Proofs.YtfjifhkgifefeaaGreatDoor.CivP
end

section
namespace Go.Proofs.YtfjifhkgifefeaaGreatDoor.PT
open Giv PA Go.RowKit YtfjifhkgifefeaaGreatDoorW.PrintWords YtfjifhkgifefeaaGreatDoorW.PrintLast YtfjifhkgifefeaaGreatDoorW.PrintMore
attribute [local go_sem] max2_int min2_int max_two min_two max_three min_three max_four min_four
set_option linter.unusedVariables false
set_option linter.unusedSimpArgs false
def num_AddSat.f (a0 : Int) (a1 : Int) : Option (Int) := (num_Add.f a0 a1).bind fun bt137 => (if bt137.2.isNone = true then (some bt137.1) else ((num_edge.f (decide (a1 < 0))).bind fun t140 => (some t140)))
theorem num_AddSat.calls (a0 : Int) (a1 : Int) (r : Int) (w : World) (h : num_AddSat.f a0 a1 = some r) :
  Calls Tryz.prog 151 #[.int .i64 a0, .int .i64 a1] w fun e w' => e = .returned (.int .i64 r) ∧ Drawn0 w w' := by
 have hu28 := Tryz.underlying28; have hu157 := Tryz.underlying157; have H := h; clear h; replace H : ((num_Add.f a0 a1).bind fun bt137 => (if bt137.2.isNone = true then (some bt137.1) else ((num_edge.f (decide (a1 < 0))).bind fun t140 => (some t140)))) = some r := H; replace H := Option.bind_eq_some_iff.mp H; obtain ⟨⟨t137, t138⟩, A30, H⟩ := H; (try dsimp only at H); have A3 := Aside0.mk A30; clear A30
 rcases t138 with _ | q139
 ·rw [if_pos (show (none : Option Int).isNone = true by rfl)] at H
  try dsimp only [Option.getD_some] at H
  try simp only [errW_none, errW_some]
  obtain rfl := Option.some.inj H
  go_enter Tryz.func151, Tryz.ntmps151
  go_wp2_with (first | ((with_reducible refine gate_callee (f := 92) rfl ?_); refine gc_ (some 10) Tryz.func92 (num_Add.calls a0 a1 t137 none _ A3.out) ?_; rintro e w' ⟨rfl, ⟨nd, rfl⟩⟩; refine ⟨_, rfl, ?_⟩; (try simp only [errW_none, errW_some])))
  go_ret
  exact ed_
 ·rw [if_neg (show ¬ (some q139).isNone = true by simp)] at H
  try dsimp only [Option.getD_some] at H
  try simp only [errW_none, errW_some]
  replace H := Option.bind_eq_some_iff.mp H; obtain ⟨t140, A40, H⟩ := H; (try dsimp only at H); have A4 := Aside0.mk A40; clear A40
  obtain rfl := Option.some.inj H
  go_enter Tryz.func151, Tryz.ntmps151
  go_wp2_with (first | ((with_reducible refine gate_callee (f := 92) rfl ?_); refine gc_ (some 10) Tryz.func92 (num_Add.calls a0 a1 t137 (some q139) _ A3.out) ?_; rintro e w' ⟨rfl, ⟨nd, rfl⟩⟩; refine ⟨_, rfl, ?_⟩; (try simp only [errW_none, errW_some])) | ((with_reducible refine gate_callee (f := 187) rfl ?_); refine gc_ (some 17) Tryz.func187 (num_edge.calls (decide (a1 < 0)) t140 _ A4.out) ?_; rintro e w' ⟨rfl, ⟨nd, rfl⟩⟩; refine ⟨_, rfl, ?_⟩))
  go_ret
  exact ed_
end Go.Proofs.YtfjifhkgifefeaaGreatDoor.PT
end

section
namespace Go.Proofs.YtfjifhkgifefeaaGreatDoor.PT
open Giv PA Go.RowKit YtfjifhkgifefeaaGreatDoorW.PrintWords YtfjifhkgifefeaaGreatDoorW.PrintLast YtfjifhkgifefeaaGreatDoorW.PrintMore
attribute [local go_sem] max2_int min2_int max_two min_two max_three min_three max_four min_four
set_option linter.unusedVariables false
set_option linter.unusedSimpArgs false
def num_Mul.j0 : Nat → Int → Int → Bool → Option (Int × Option Int)
 | 0, _, _, _ => none
 | k + 1, x0, x1, x12 => if x12 = true then (some (0, none)) else (if x0 = (-1) then (if x1 = (-9223372036854775808) then (some (0, some 2)) else (if x1 = (-1) then (if x0 = (-9223372036854775808) then (some (0, some 2)) else (if x1 = 0 then (none) else (if (wrap64 (Int.tdiv (wrap64 (x0 * x1)) x1)) = x0 then (some (wrap64 (x0 * x1), none)) else (some (0, some 2))))) else (if x1 = 0 then (none) else (if (wrap64 (Int.tdiv (wrap64 (x0 * x1)) x1)) = x0 then (some (wrap64 (x0 * x1), none)) else (some (0, some 2)))))) else (if x1 = (-1) then (if x0 = (-9223372036854775808) then (some (0, some 2)) else (if x1 = 0 then (none) else (if (wrap64 (Int.tdiv (wrap64 (x0 * x1)) x1)) = x0 then (some (wrap64 (x0 * x1), none)) else (some (0, some 2))))) else (if x1 = 0 then (none) else (if (wrap64 (Int.tdiv (wrap64 (x0 * x1)) x1)) = x0 then (some (wrap64 (x0 * x1), none)) else (some (0, some 2))))))
def num_Mul.f (k : Nat) (a0 : Int) (a1 : Int) : Option (Int × Option Int) := if a0 = 0 then (num_Mul.j0 k a0 a1 true) else (num_Mul.j0 k a0 a1 (a1 == 0))
theorem num_Mul.calls (k : Nat) (a0 : Int) (a1 : Int) (r1 : Int) (r2 : Option Int) (w : World) (h : num_Mul.f k a0 a1 = some (r1, r2)) :
  Calls Tryz.prog 150 #[.int .i64 a0, .int .i64 a1] w fun e w' => e = .returned (.tuple #[.int .i64 r1, errW r2]) ∧ Drawn0 w w' := by
 have hu28 := Tryz.underlying28; have hu157 := Tryz.underlying157; have H := h; clear h; replace H : (if a0 = 0 then (num_Mul.j0 k a0 a1 true) else (num_Mul.j0 k a0 a1 (a1 == 0))) = some (r1, r2) := H; have HC3 := Aside0.mk H; clear H
 go_enter Tryz.func150, Tryz.ntmps150
 go_upto_region 1 with (fail)
 go_cut [12] (fun v12 wc => ∃ (kq : Nat) (x12_2 : Bool), v12 = .bool x12_2 ∧ Aside0 (num_Mul.j0 kq a0 a1 x12_2 = some (r1, r2)) ∧ Aside0 (kq ≤ k) ∧ Drawn0 w wc)
 case first =>
  have H := HC3.out; clear HC3
  by_cases c4 : a0 = 0
  ·rw [if_pos c4] at H; have c4b0 : (a0 == 0) = true := beq_iff_eq.mpr c4; have c4b1 : (a0 != 0) = false := bne_eq_false_iff_eq.mpr c4; clear c4
   (first | rw [c4b0] | (simp only [i64_w, i32_w]; rw [c4b0]) | skip)
   have H' := Aside0.mk H; clear H
   go_wp2
   go_meet
   case rel => exact ⟨_, (true), rs_, H', ⟨by first | omega | exact Nat.le_refl _⟩, by repeat (first | exact Drawn0.refl _ | apply Drawn0.step)⟩
  ·rw [if_neg c4] at H; have c4b0 : (a0 == 0) = false := beq_eq_false_iff_ne.mpr c4; have c4b1 : (a0 != 0) = true := bne_iff_ne.mpr c4
   (first | rw [c4b0] | (simp only [i64_w, i32_w]; rw [c4b0]) | skip)
   have H' := Aside0.mk H; clear H
   go_wp2
   go_meet
   case rel => exact ⟨_, ((a1 == 0)), rs_, H', ⟨by first | omega | exact Nat.le_refl _⟩, by repeat (first | exact Drawn0.refl _ | apply Drawn0.step)⟩
 case rest =>
  clear HC3; (try clear c1); (try clear p2); (try clear c4); (try clear c4b0); (try clear c4b1); obtain ⟨kq, x12_2, rfl, HA, HJ2, ⟨mc2, rfl⟩⟩ := hcut
  cases kq with
  | zero => exact absurd HA.out (by simp [num_Mul.j0])
  | succ kj2 =>
   have H := HA.out; clear HA; simp only [num_Mul.j0] at H
   by_cases c5 : x12_2 = true
   ·subst c5
    have H1 : (some (0, none)) = some (r1, r2) := by rw [if_pos rfl] at H; exact H
    clear H; have H := H1; clear H1; simp only [Option.some.injEq, Prod.mk.injEq] at H; obtain ⟨rfl, rfl⟩ := H
    go_wp2
    go_ret2
    exact ed_
   ·replace c5 := Bool.eq_false_iff.mpr c5; subst c5
    have H1 : (if a0 = (-1) then (if a1 = (-9223372036854775808) then (some (0, some 2)) else (if a1 = (-1) then (if a0 = (-9223372036854775808) then (some (0, some 2)) else (if a1 = 0 then (none) else (if (wrap64 (Int.tdiv (wrap64 (a0 * a1)) a1)) = a0 then (some (wrap64 (a0 * a1), none)) else (some (0, some 2))))) else (if a1 = 0 then (none) else (if (wrap64 (Int.tdiv (wrap64 (a0 * a1)) a1)) = a0 then (some (wrap64 (a0 * a1), none)) else (some (0, some 2)))))) else (if a1 = (-1) then (if a0 = (-9223372036854775808) then (some (0, some 2)) else (if a1 = 0 then (none) else (if (wrap64 (Int.tdiv (wrap64 (a0 * a1)) a1)) = a0 then (some (wrap64 (a0 * a1), none)) else (some (0, some 2))))) else (if a1 = 0 then (none) else (if (wrap64 (Int.tdiv (wrap64 (a0 * a1)) a1)) = a0 then (some (wrap64 (a0 * a1), none)) else (some (0, some 2)))))) = some (r1, r2) := by rw [if_neg (show ¬ (false = true) by decide)] at H; exact H
    clear H; have H := H1; clear H1
    by_cases c6 : a0 = (-1)
    ·rw [if_pos c6] at H; have c6b0 : (a0 == (-1)) = true := beq_iff_eq.mpr c6; have c6b1 : (a0 != (-1)) = false := bne_eq_false_iff_eq.mpr c6; clear c6
     by_cases c7 : a1 = (-9223372036854775808)
     ·rw [if_pos c7] at H; have c7b0 : (a1 == (-9223372036854775808)) = true := beq_iff_eq.mpr c7; have c7b1 : (a1 != (-9223372036854775808)) = false := bne_eq_false_iff_eq.mpr c7; clear c7; simp only [Option.some.injEq, Prod.mk.injEq] at H; obtain ⟨rfl, rfl⟩ := H
      go_wp2
      go_ret2
      exact ed_
     ·rw [if_neg c7] at H; have c7b0 : (a1 == (-9223372036854775808)) = false := beq_eq_false_iff_ne.mpr c7; have c7b1 : (a1 != (-9223372036854775808)) = true := bne_iff_ne.mpr c7
      by_cases c8 : a1 = (-1)
      ·rw [if_pos c8] at H; have c8b0 : (a1 == (-1)) = true := beq_iff_eq.mpr c8; have c8b1 : (a1 != (-1)) = false := bne_eq_false_iff_eq.mpr c8; clear c8
       by_cases c9 : a0 = (-9223372036854775808)
       ·rw [if_pos c9] at H; have c9b0 : (a0 == (-9223372036854775808)) = true := beq_iff_eq.mpr c9; have c9b1 : (a0 != (-9223372036854775808)) = false := bne_eq_false_iff_eq.mpr c9; clear c9; simp only [Option.some.injEq, Prod.mk.injEq] at H; obtain ⟨rfl, rfl⟩ := H
        go_wp2
        go_ret2
        exact ed_
       ·rw [if_neg c9] at H; have c9b0 : (a0 == (-9223372036854775808)) = false := beq_eq_false_iff_ne.mpr c9; have c9b1 : (a0 != (-9223372036854775808)) = true := bne_iff_ne.mpr c9
        by_cases c10 : a1 = 0
        ·rw [if_pos c10] at H; exact absurd H (by simp)
        ·rw [if_neg c10] at H; have c10b0 : (a1 == 0) = false := beq_eq_false_iff_ne.mpr c10; have c10b1 : (a1 != 0) = true := bne_iff_ne.mpr c10
         by_cases c11 : (wrap64 (Int.tdiv (wrap64 (a0 * a1)) a1)) = a0
         ·rw [if_pos c11] at H; have c11b0 : ((wrap64 (Int.tdiv (wrap64 (a0 * a1)) a1)) == a0) = true := beq_iff_eq.mpr c11; have c11b1 : ((wrap64 (Int.tdiv (wrap64 (a0 * a1)) a1)) != a0) = false := bne_eq_false_iff_eq.mpr c11; clear c11; simp only [Option.some.injEq, Prod.mk.injEq] at H; obtain ⟨rfl, rfl⟩ := H
          go_wp2
          go_ret2
          exact ed_
         ·rw [if_neg c11] at H; have c11b0 : ((wrap64 (Int.tdiv (wrap64 (a0 * a1)) a1)) == a0) = false := beq_eq_false_iff_ne.mpr c11; have c11b1 : ((wrap64 (Int.tdiv (wrap64 (a0 * a1)) a1)) != a0) = true := bne_iff_ne.mpr c11; simp only [Option.some.injEq, Prod.mk.injEq] at H; obtain ⟨rfl, rfl⟩ := H
          go_wp2
          go_ret2
          exact ed_
      ·rw [if_neg c8] at H; have c8b0 : (a1 == (-1)) = false := beq_eq_false_iff_ne.mpr c8; have c8b1 : (a1 != (-1)) = true := bne_iff_ne.mpr c8
       by_cases c12 : a1 = 0
       ·rw [if_pos c12] at H; exact absurd H (by simp)
       ·rw [if_neg c12] at H; have c12b0 : (a1 == 0) = false := beq_eq_false_iff_ne.mpr c12; have c12b1 : (a1 != 0) = true := bne_iff_ne.mpr c12
        by_cases c13 : (wrap64 (Int.tdiv (wrap64 (a0 * a1)) a1)) = a0
        ·rw [if_pos c13] at H; have c13b0 : ((wrap64 (Int.tdiv (wrap64 (a0 * a1)) a1)) == a0) = true := beq_iff_eq.mpr c13; have c13b1 : ((wrap64 (Int.tdiv (wrap64 (a0 * a1)) a1)) != a0) = false := bne_eq_false_iff_eq.mpr c13; clear c13; simp only [Option.some.injEq, Prod.mk.injEq] at H; obtain ⟨rfl, rfl⟩ := H
         go_wp2
         go_ret2
         exact ed_
        ·rw [if_neg c13] at H; have c13b0 : ((wrap64 (Int.tdiv (wrap64 (a0 * a1)) a1)) == a0) = false := beq_eq_false_iff_ne.mpr c13; have c13b1 : ((wrap64 (Int.tdiv (wrap64 (a0 * a1)) a1)) != a0) = true := bne_iff_ne.mpr c13; simp only [Option.some.injEq, Prod.mk.injEq] at H; obtain ⟨rfl, rfl⟩ := H
         go_wp2
         go_ret2
         exact ed_
    ·rw [if_neg c6] at H; have c6b0 : (a0 == (-1)) = false := beq_eq_false_iff_ne.mpr c6; have c6b1 : (a0 != (-1)) = true := bne_iff_ne.mpr c6
     by_cases c14 : a1 = (-1)
     ·rw [if_pos c14] at H; have c14b0 : (a1 == (-1)) = true := beq_iff_eq.mpr c14; have c14b1 : (a1 != (-1)) = false := bne_eq_false_iff_eq.mpr c14; clear c14
      by_cases c15 : a0 = (-9223372036854775808)
      ·rw [if_pos c15] at H; have c15b0 : (a0 == (-9223372036854775808)) = true := beq_iff_eq.mpr c15; have c15b1 : (a0 != (-9223372036854775808)) = false := bne_eq_false_iff_eq.mpr c15; clear c15; simp only [Option.some.injEq, Prod.mk.injEq] at H; obtain ⟨rfl, rfl⟩ := H
       go_wp2
       go_ret2
       exact ed_
      ·rw [if_neg c15] at H; have c15b0 : (a0 == (-9223372036854775808)) = false := beq_eq_false_iff_ne.mpr c15; have c15b1 : (a0 != (-9223372036854775808)) = true := bne_iff_ne.mpr c15
       by_cases c16 : a1 = 0
       ·rw [if_pos c16] at H; exact absurd H (by simp)
       ·rw [if_neg c16] at H; have c16b0 : (a1 == 0) = false := beq_eq_false_iff_ne.mpr c16; have c16b1 : (a1 != 0) = true := bne_iff_ne.mpr c16
        by_cases c17 : (wrap64 (Int.tdiv (wrap64 (a0 * a1)) a1)) = a0
        ·rw [if_pos c17] at H; have c17b0 : ((wrap64 (Int.tdiv (wrap64 (a0 * a1)) a1)) == a0) = true := beq_iff_eq.mpr c17; have c17b1 : ((wrap64 (Int.tdiv (wrap64 (a0 * a1)) a1)) != a0) = false := bne_eq_false_iff_eq.mpr c17; clear c17; simp only [Option.some.injEq, Prod.mk.injEq] at H; obtain ⟨rfl, rfl⟩ := H
         go_wp2
         go_ret2
         exact ed_
        ·rw [if_neg c17] at H; have c17b0 : ((wrap64 (Int.tdiv (wrap64 (a0 * a1)) a1)) == a0) = false := beq_eq_false_iff_ne.mpr c17; have c17b1 : ((wrap64 (Int.tdiv (wrap64 (a0 * a1)) a1)) != a0) = true := bne_iff_ne.mpr c17; simp only [Option.some.injEq, Prod.mk.injEq] at H; obtain ⟨rfl, rfl⟩ := H
         go_wp2
         go_ret2
         exact ed_
     ·rw [if_neg c14] at H; have c14b0 : (a1 == (-1)) = false := beq_eq_false_iff_ne.mpr c14; have c14b1 : (a1 != (-1)) = true := bne_iff_ne.mpr c14
      by_cases c18 : a1 = 0
      ·rw [if_pos c18] at H; exact absurd H (by simp)
      ·rw [if_neg c18] at H; have c18b0 : (a1 == 0) = false := beq_eq_false_iff_ne.mpr c18; have c18b1 : (a1 != 0) = true := bne_iff_ne.mpr c18
       by_cases c19 : (wrap64 (Int.tdiv (wrap64 (a0 * a1)) a1)) = a0
       ·rw [if_pos c19] at H; have c19b0 : ((wrap64 (Int.tdiv (wrap64 (a0 * a1)) a1)) == a0) = true := beq_iff_eq.mpr c19; have c19b1 : ((wrap64 (Int.tdiv (wrap64 (a0 * a1)) a1)) != a0) = false := bne_eq_false_iff_eq.mpr c19; clear c19; simp only [Option.some.injEq, Prod.mk.injEq] at H; obtain ⟨rfl, rfl⟩ := H
        go_wp2
        go_ret2
        exact ed_
       ·rw [if_neg c19] at H; have c19b0 : ((wrap64 (Int.tdiv (wrap64 (a0 * a1)) a1)) == a0) = false := beq_eq_false_iff_ne.mpr c19; have c19b1 : ((wrap64 (Int.tdiv (wrap64 (a0 * a1)) a1)) != a0) = true := bne_iff_ne.mpr c19; simp only [Option.some.injEq, Prod.mk.injEq] at H; obtain ⟨rfl, rfl⟩ := H
        go_wp2
        go_ret2
        exact ed_
end Go.Proofs.YtfjifhkgifefeaaGreatDoor.PT
end

