/- Any moment as a text, that of any text, any length as a text, and that of any text, or the errors. -/
import Derived.Test.YtfjifhkgifefeaaGreatDoorZTt1
import Derived.Lib.ParseIntBTie
set_option maxHeartbeats 8000000
set_option maxRecDepth 100000
set_option linter.unusedVariables false
set_option linter.unusedSimpArgs false
section
namespace Go.Proofs.YtfjifhkgifefeaaGreatDoor.PA
open Giv Go.RowKit YtfjifhkgifefeaaGreatDoorW.PrintWords YtfjifhkgifefeaaGreatDoorW.PrintLast YtfjifhkgifefeaaGreatDoorW.PrintMore
attribute [local go_sem] max2_int min2_int max_two min_two max_three min_three max_four min_four
set_option linter.unusedVariables false
set_option linter.unusedSimpArgs false
def civil_Text.f (k : Nat) (a0_0 : Int) (a0_1 : Int) (a0_2 : Int) : Option (ByteArray × Option Int) := (civil_Check.f k a0_0 a0_1 a0_2).bind fun t140 => (if t140.isNone = true then ((civil_digits.f a0_0 4).bind fun t142 => (if t142.size + 1 ≤ 9223372036854775807 then ((civil_digits.f a0_1 2).bind fun t143 => (if (t142 ++ (⟨#[45]⟩ : ByteArray)).size + t143.size ≤ 9223372036854775807 then (if ((t142 ++ (⟨#[45]⟩ : ByteArray)) ++ t143).size + 1 ≤ 9223372036854775807 then ((civil_digits.f a0_2 2).bind fun t144 => (if (((t142 ++ (⟨#[45]⟩ : ByteArray)) ++ t143) ++ (⟨#[45]⟩ : ByteArray)).size + t144.size ≤ 9223372036854775807 then (some ((((t142 ++ (⟨#[45]⟩ : ByteArray)) ++ t143) ++ (⟨#[45]⟩ : ByteArray)) ++ t144, none)) else (none))) else (none)) else (none))) else (none))) else (some ((⟨#[]⟩ : ByteArray), some (t140.getD 0))))
def civil_Text.T4 : Bool × List (List Nat × List Nat) := (true, [([], []), ([0], [0]), ([1], [1]), ([2], [2]), ([], []), ([4], [4]), ([5, 2], [5]), ([3, 6], [3, 6]), ([7], [7]), ([], []), ([9], [9]), ([10, 6], [10]), ([8, 11], [8, 11]), ([12, 11, 0, 1, 2, 3, 4, 5, 6, 7, 8, 9, 10, 11, 12], [12]), ([13, 0, 1, 2, 3, 4, 5, 6, 7, 8, 9, 10, 11, 12, 13], [])])
def civil_Text.B4 : List Nat := [0, 1, 3, 7, 0, 16, 55, 127, 255, 0, 512, 1655, 4095, 8191, 16383]
theorem civil_Text.tab4 : rtab .any (opsOf Tryz.f26 4) = civil_Text.T4 := by kernel_rfl
theorem civil_Text.bits4 : waitsOk civil_Text.T4.2 civil_Text.B4 = true := by kernel_rfl
theorem civil_Text.calls (k : Nat) (a0_0 : Int) (a0_1 : Int) (a0_2 : Int) (r1 : ByteArray) (r2 : Option Int) (w : World) (hl_ : Laid w) (h : civil_Text.f k a0_0 a0_1 a0_2 = some (r1, r2)) :
  Calls Tryz.prog 26 #[.agg #[.int .i64 a0_0, .int .i64 a0_1, .int .i64 a0_2]] w fun e w' => e = .returned (.tuple #[.string r1, errW r2]) ∧ Below w.heap.size w w' := by
 have hu26 := Tryz.underlying26; have hu28 := Tryz.underlying28; have hu157 := Tryz.underlying157; have HL := Aside0.mk hl_; clear hl_; have HB := Aside0.mk (Below.refl w.heap.size w); have H := h; clear h
 unfold civil_Text.f at H
 replace H := Option.bind_eq_some_iff.mp H; obtain ⟨t140, A20, H⟩ := H; (try dsimp only at H); have A2 := Aside0.mk A20; clear A20
 rcases t140 with _ | q141
 ·rw [if_pos (show (none : Option Int).isNone = true by rfl)] at H
  try dsimp only [Option.getD_some] at H
  try simp only [errW_none, errW_some]
  replace H := Option.bind_eq_some_iff.mp H; obtain ⟨t142, A30, H⟩ := H; (try dsimp only at H); have A3 := Aside0.mk A30; clear A30
  by_cases c4 : t142.size + 1 ≤ 9223372036854775807
  ·rw [if_pos c4] at H; have c4b0 := eq_true c4; have c4b1 : decide (t142.size + 1 ≤ 9223372036854775807) = true := decide_eq_true c4
   try have c4b2 : (9223372036854775807 < t142.size + 1) = False := eq_false (Nat.not_lt.2 c4)
   replace H := Option.bind_eq_some_iff.mp H; obtain ⟨t143, A50, H⟩ := H; (try dsimp only at H); have A5 := Aside0.mk A50; clear A50
   by_cases c6 : (t142 ++ (⟨#[45]⟩ : ByteArray)).size + t143.size ≤ 9223372036854775807
   ·rw [if_pos c6] at H; have c6b0 := eq_true c6; have c6b1 : decide ((t142 ++ (⟨#[45]⟩ : ByteArray)).size + t143.size ≤ 9223372036854775807) = true := decide_eq_true c6
    try have c6b2 : (9223372036854775807 < (t142 ++ (⟨#[45]⟩ : ByteArray)).size + t143.size) = False := eq_false (Nat.not_lt.2 c6)
    try have c6b3 : (9223372036854775807 < t142.size + 1 + t143.size) = False := eq_false (by have q_ := c6; simp only [ByteArray.size_append] at q_; exact Nat.not_lt.2 q_)
    by_cases c7 : ((t142 ++ (⟨#[45]⟩ : ByteArray)) ++ t143).size + 1 ≤ 9223372036854775807
    ·rw [if_pos c7] at H; have c7b0 := eq_true c7; have c7b1 : decide (((t142 ++ (⟨#[45]⟩ : ByteArray)) ++ t143).size + 1 ≤ 9223372036854775807) = true := decide_eq_true c7
     try have c7b2 : (9223372036854775807 < ((t142 ++ (⟨#[45]⟩ : ByteArray)) ++ t143).size + 1) = False := eq_false (Nat.not_lt.2 c7)
     try have c7b3 : (9223372036854775807 < t142.size + 1 + t143.size + 1) = False := eq_false (by have q_ := c7; simp only [ByteArray.size_append] at q_; exact Nat.not_lt.2 q_)
     replace H := Option.bind_eq_some_iff.mp H; obtain ⟨t144, A80, H⟩ := H; (try dsimp only at H); have A8 := Aside0.mk A80; clear A80
     by_cases c9 : (((t142 ++ (⟨#[45]⟩ : ByteArray)) ++ t143) ++ (⟨#[45]⟩ : ByteArray)).size + t144.size ≤ 9223372036854775807
     ·rw [if_pos c9] at H; have c9b0 := eq_true c9; have c9b1 : decide ((((t142 ++ (⟨#[45]⟩ : ByteArray)) ++ t143) ++ (⟨#[45]⟩ : ByteArray)).size + t144.size ≤ 9223372036854775807) = true := decide_eq_true c9
      try have c9b2 : (9223372036854775807 < (((t142 ++ (⟨#[45]⟩ : ByteArray)) ++ t143) ++ (⟨#[45]⟩ : ByteArray)).size + t144.size) = False := eq_false (Nat.not_lt.2 c9)
      try have c9b3 : (9223372036854775807 < t142.size + 1 + t143.size + 1 + t144.size) = False := eq_false (by have q_ := c9; simp only [ByteArray.size_append] at q_; exact Nat.not_lt.2 q_)
      simp only [Option.some.injEq, Prod.mk.injEq] at H; obtain ⟨rfl, rfl⟩ := H
      go_enter Tryz.func26, Tryz.ntmps26
      try go_wp2_with (first | ((with_reducible refine gate_dst (N := 1) rfl ?_); refine be_ (N := 1) (cs := #[.int .i64 a0_0, .int .i64 a0_1, .int .i64 a0_2]) (t := 26) ?_; intro gb139 hg w10 hbox hb; have BK139 := Aside0.mk hbox; have GW139 := Aside0.mk (sz_ hg : w.heap.size ≤ gb139); have GE139 := GW139; replace HB := bs_ hb; clear hb hbox hg; have hcz11_0 : w10.cell? ⟨gb139, 0, none⟩ = some (.int .i64 a0_0) := (blk_cell BK139.out 0).trans rfl; have hcz11_1 : w10.cell? ⟨gb139, 1, none⟩ = some (.int .i64 a0_1) := (blk_cell BK139.out 1).trans rfl; have hcz11_2 : w10.cell? ⟨gb139, 2, none⟩ = some (.int .i64 a0_2) := (blk_cell BK139.out 2).trans rfl; have hfz11_0 := blk_frozen BK139.out 0; have hfz11_1 := blk_frozen BK139.out 1; have hfz11_2 := blk_frozen BK139.out 2) | ((with_reducible refine gate_callee (f := 22) rfl ?_); refine gd_ (some 6) Tryz.func22 (civil_Check.calls k a0_0 a0_1 a0_2 none _ A2.out) ?_; intro w12 hb; replace BK139 := bb_ BK139.out hb; replace HB := bs_ hb; (try clear hb); (try simp only [errW_none, errW_some])))
      have n0_ := Aside0.mk (blk_drew BK139.out); have n1_ := Aside0.mk (below_drew1 HB.out); clear BK139; clear HB; have BK139 := n0_; have HB := n1_; clear n0_ n1_
      refine start_ (n := 15) (S := fun w' => w'.cell? ⟨gb139, 0, none⟩ = some (.int .i64 a0_0) ∧ w'.cell? ⟨gb139, 1, none⟩ = some (.int .i64 a0_1) ∧ w'.cell? ⟨gb139, 2, none⟩ = some (.int .i64 a0_2)) (ds := []) (bq 15 0) (by kernel_rfl) rfl (by kernel_rfl) ⟨(blk_cell BK139.out 0).trans rfl, (blk_cell BK139.out 1).trans rfl, (blk_cell BK139.out 2).trans rfl⟩ (fun hHeld => ?_); refine with_tabW civil_Text.tab4 civil_Text.bits4 (fun HT_ HW_ => ?_)
      generalize w12.drew = w13 at BK139 HB hHeld ⊢
      refine pa 0 (bq 15 1) (some 10) ?_; refine pa 4 (bs 15 17) (some 14) ?_; refine pa 9 (bs 15 529) (some 19) ?_
      refine tu (N := some 11) (v := ?_) (a' := ?_) 1 (bs 15 531) hHeld rfl rfl (take_ofW HT_.out HW_.out (by kernel_rfl)) (fun _ _ _ h => h) (by rfl) ?_ ?_ ?_; rotate_left 2; (rintro w' ⟨s0, s1, s2⟩; go_simp; with_reducible rfl); (simp only [Act.put, List.setIfInBounds_toArray, List.set_cons_zero, List.set_cons_succ, i64_w, i32_w]; rfl)
      refine tu (N := some 15) (v := ?_) (a' := ?_) 5 (bs 15 563) hHeld rfl rfl (take_ofW HT_.out HW_.out (by kernel_rfl)) (fun _ _ _ h => h) (by rfl) ?_ ?_ ?_; rotate_left 2; (rintro w' ⟨s0, s1, s2⟩; go_simp; with_reducible rfl); (simp only [Act.put, List.setIfInBounds_toArray, List.set_cons_zero, List.set_cons_succ, i64_w, i32_w]; rfl)
      refine tu (N := some 20) (v := ?_) (a' := ?_) 10 (bs 15 1587) hHeld rfl rfl (take_ofW HT_.out HW_.out (by kernel_rfl)) (fun _ _ _ h => h) (by rfl) ?_ ?_ ?_; rotate_left 2; (rintro w' ⟨s0, s1, s2⟩; go_simp; with_reducible rfl); (simp only [Act.put, List.setIfInBounds_toArray, List.set_cons_zero, List.set_cons_succ, i64_w, i32_w]; rfl)
      refine one_ (i := 2) (N := some 12) (bs 15 1591) rfl rfl (one_of HT_.out (by kernel_rfl)) (by decide) (fun K hK => ?_)
      refine goes_ Tryz.func95 (by kernel_rfl) rfl #[.int .i64 a0_0, .int .i64 4] (by rfl) rfl rfl ev_ ?_
      with_reducible refine (civil_digits.calls a0_0 4 t142 _ lb_ A3.out).mono ?_
      rintro e w14 ⟨rfl, hb⟩
      refine ⟨_, rfl, ?_⟩
      have n0_ := Aside0.mk (blk_below (g := gb139) (o := .cells #[.int .i64 a0_0, .int .i64 a0_1, .int .i64 a0_2] 26 (0, 0)) bk_ hb); have n1_ := bs_ hb; clear BK139; clear HB; have BK139 := n0_; have HB := n1_; clear n0_ n1_
      (try clear hb)
      (try clear hb2)
      (try clear hk)
      (try clear hi)
      refine hK.out _ _ ⟨(blk_cell BK139.out 0).trans rfl, (blk_cell BK139.out 1).trans rfl, (blk_cell BK139.out 2).trans rfl⟩ (fun hHeld => ?_)
      clear hK K
      refine norm_ (a' := ?_) ?_ ?_
      rotate_left
      ·show Act.put _ (some 12) _ = _
       simp only [Act.put, List.setIfInBounds_toArray, List.set_cons_zero, List.set_cons_succ, i64_w, i32_w]
       rfl
      refine pa 3 (bs 15 1599) (some 13) ?_
      refine one_ (i := 6) (N := some 16) (bs 15 1663) rfl rfl (one_of HT_.out (by kernel_rfl)) (by decide) (fun K hK => ?_)
      refine goes_ Tryz.func95 (by kernel_rfl) rfl #[.int .i64 a0_1, .int .i64 2] (by rfl) rfl rfl ev_ ?_
      with_reducible refine (civil_digits.calls a0_1 2 t143 _ lb_ A5.out).mono ?_
      rintro e w15 ⟨rfl, hb⟩
      refine ⟨_, rfl, ?_⟩
      have n0_ := Aside0.mk (blk_below (g := gb139) (o := .cells #[.int .i64 a0_0, .int .i64 a0_1, .int .i64 a0_2] 26 (0, 0)) bk_ hb); have n1_ := bs_ hb; clear BK139; clear HB; have BK139 := n0_; have HB := n1_; clear n0_ n1_
      (try clear hb)
      (try clear hb2)
      (try clear hk)
      (try clear hi)
      refine hK.out _ _ ⟨(blk_cell BK139.out 0).trans rfl, (blk_cell BK139.out 1).trans rfl, (blk_cell BK139.out 2).trans rfl⟩ (fun hHeld => ?_)
      clear hK K
      refine norm_ (a' := ?_) ?_ ?_
      rotate_left
      ·show Act.put _ (some 16) _ = _
       simp only [Act.put, List.setIfInBounds_toArray, List.set_cons_zero, List.set_cons_succ, i64_w, i32_w]
       rfl
      refine pa 7 (bs 15 1791) (some 17) ?_; refine pa 8 (bq 15 11) (some 18) ?_
      refine one_ (i := 11) (N := some 21) (bq 15 12) rfl rfl (one_of HT_.out (by kernel_rfl)) (by decide) (fun K hK => ?_)
      refine goes_ Tryz.func95 (by kernel_rfl) rfl #[.int .i64 a0_2, .int .i64 2] (by rfl) rfl rfl ev_ ?_
      with_reducible refine (civil_digits.calls a0_2 2 t144 _ lb_ A8.out).mono ?_
      rintro e w16 ⟨rfl, hb⟩
      refine ⟨_, rfl, ?_⟩
      have n0_ := Aside0.mk (blk_below (g := gb139) (o := .cells #[.int .i64 a0_0, .int .i64 a0_1, .int .i64 a0_2] 26 (0, 0)) bk_ hb); have n1_ := bs_ hb; clear BK139; clear HB; have BK139 := n0_; have HB := n1_; clear n0_ n1_
      (try clear hb)
      (try clear hb2)
      (try clear hk)
      (try clear hi)
      refine hK.out _ _ ⟨(blk_cell BK139.out 0).trans rfl, (blk_cell BK139.out 1).trans rfl, (blk_cell BK139.out 2).trans rfl⟩ (fun hHeld => ?_)
      clear hK K
      refine norm_ (a' := ?_) ?_ ?_
      rotate_left
      ·show Act.put _ (some 21) _ = _
       simp only [Act.put, List.setIfInBounds_toArray, List.set_cons_zero, List.set_cons_succ, i64_w, i32_w]
       rfl
      refine pa 12 (bq 15 13) (some 22) ?_; refine pa 13 (bq 15 14) (some 2) ?_; refine pa 14 (bq 15 15) (some 3) ?_
      refine done_ (done_of HT_.out (by kernel_rfl)) ?_
      try go_wp2
      go_ret2
      exact en_
     ·rw [if_neg c9] at H; exact absurd H (by simp)
    ·rw [if_neg c7] at H; exact absurd H (by simp)
   ·rw [if_neg c6] at H; exact absurd H (by simp)
  ·rw [if_neg c4] at H; exact absurd H (by simp)
 ·rw [if_neg (show ¬ (some q141).isNone = true by simp)] at H
  try dsimp only [Option.getD_some] at H
  try simp only [errW_none, errW_some]
  simp only [Option.some.injEq, Prod.mk.injEq] at H; obtain ⟨rfl, rfl⟩ := H
  go_enter Tryz.func26, Tryz.ntmps26
  go_wp2_with (first | ((with_reducible refine gate_dst (N := 1) rfl ?_); refine be_ (N := 1) (cs := #[.int .i64 a0_0, .int .i64 a0_1, .int .i64 a0_2]) (t := 26) ?_; intro gb139 hg w17 hbox hb; have BK139 := Aside0.mk hbox; have GW139 := Aside0.mk (sz_ hg : w.heap.size ≤ gb139); have GE139 := GW139; replace HB := bs_ hb; clear hb hbox hg; have hcz18_0 : w17.cell? ⟨gb139, 0, none⟩ = some (.int .i64 a0_0) := (blk_cell BK139.out 0).trans rfl; have hcz18_1 : w17.cell? ⟨gb139, 1, none⟩ = some (.int .i64 a0_1) := (blk_cell BK139.out 1).trans rfl; have hcz18_2 : w17.cell? ⟨gb139, 2, none⟩ = some (.int .i64 a0_2) := (blk_cell BK139.out 2).trans rfl; have hfz18_0 := blk_frozen BK139.out 0; have hfz18_1 := blk_frozen BK139.out 1; have hfz18_2 := blk_frozen BK139.out 2) | ((with_reducible refine gate_callee (f := 22) rfl ?_); refine gd_ (some 6) Tryz.func22 (civil_Check.calls k a0_0 a0_1 a0_2 (some q141) _ A2.out) ?_; intro w19 hb; replace BK139 := bb_ BK139.out hb; replace HB := bs_ hb; (try clear hb); (try simp only [errW_none, errW_some])))
  go_ret2
  exact en_
end Go.Proofs.YtfjifhkgifefeaaGreatDoor.PA
end

section
/- What the printed civil.Text answers: the ten signs of a date that may be. -/
namespace Go.Proofs.YtfjifhkgifefeaaGreatDoor.CivP
open Go.RowKit Go.Proofs.YtfjifhkgifefeaaGreatDoor.PA Go.Proofs.YtfjifhkgifefeaaGreatDoor.CivM Go.Proofs.YtfjifhkgifefeaaGreatDoor.StrM Go.Proofs.YtfjifhkgifefeaaGreatDoor.Giv Go.Proofs.YtfjifhkgifefeaaGreatDoorW.PrintWords
theorem ba_app (a b : List UInt8) : (⟨a.toArray⟩ : ByteArray) ++ ⟨b.toArray⟩ = ⟨(a ++ b).toArray⟩ := by
  apply ByteArray.ext; simp [ByteArray.data_append]
theorem ba_size (a : List UInt8) : (⟨a.toArray⟩ : ByteArray).size = a.length := by simp [ByteArray.size]
theorem itoa_len (n : Int) (w : Nat) (h0 : 0 ≤ n) (h : (n ≤ 99 ∧ 2 ≤ w) ∨ (n ≤ 9999 ∧ 4 ≤ w)) : (Lib.itoa n).length ≤ w := by
  obtain ⟨u, rfl⟩ : ∃ u : Nat, n = u := ⟨n.toNat, by omega⟩
  unfold Lib.itoa
  rw [if_neg (by omega), Int.toNat_natCast]
  by_cases a : u < 10
  · rw [dd1 u a]; simp; omega
  by_cases b : u < 100
  · rw [dd2 u (by omega) b]; simp; omega
  by_cases c : u < 1000
  · rw [dd3 u (by omega) c]; simp; omega
  · rw [dd4 u (by omega) (by omega)]; simp; omega
theorem digits (n : Int) (w : Nat) (h0 : 0 ≤ n) (h : (n ≤ 99 ∧ 2 ≤ w) ∨ (n ≤ 9999 ∧ 4 ≤ w)) (hw : w ≤ 100) : civil_digits.f n w = some ⟨(padded w n).toArray⟩ := by
  have hl := itoa_len n w h0 h
  unfold civil_digits.f strconv_Itoa.f
  rw [if_pos ⟨by omega, by omega⟩]; simp only [Option.bind_some, ba_size]; rw [wid (by omega) (by omega)]
  unfold strings_Repeat.f
  have e1 : ((w : Int) - ((Lib.itoa n).length : Int)).toNat = w - (Lib.itoa n).length := by omega
  rw [e1]; have e2 : (⟨#[48]⟩ : ByteArray).size = 1 := rfl; rw [e2, if_pos ⟨by omega, by omega, by omega⟩]; simp only [Option.bind_some]; rw [ba_size, ba_app]
  have e4 : (Lib.repeatL [48] (w - (Lib.itoa n).length)).length = 1 * (w - (Lib.itoa n).length) := by simp [Lib.repeatL_length]
  rw [e4, if_pos (by omega)]
  rfl
theorem padded_len2 (n : Int) (h0 : 0 ≤ n) (h1 : n ≤ 99) : (padded 2 n).length = 2 := by rw [padded2 n h0 h1]; rfl
theorem padded_len4 (n : Int) (h0 : 0 ≤ n) (h1 : n ≤ 9999) : (padded 4 n).length = 4 := by rw [padded4 n h0 h1]; rfl
theorem text (k : Nat) (y m d : Int) (hk : 2 ≤ k) : civil_Text.f k y m d = some (if vld y m d then (⟨(dtext y m d).toArray⟩, none) else (⟨#[]⟩, some 1)) := by
  unfold civil_Text.f
  rw [check k y m d hk]; simp only [Option.bind_some]
  by_cases v : vld y m d
  · rw [if_pos v, if_pos v]; obtain ⟨h1, h2, h3, h4, h5, h6⟩ := id v; have hd := dim_bd y m; have D4 := digits y 4 (by omega) (.inr ⟨h2, by omega⟩) (by omega); have D2 := digits m 2 (by omega) (.inl ⟨by omega, by omega⟩) (by omega); have D3 := digits d 2 (by omega) (.inl ⟨by omega, by omega⟩) (by omega); simp only [Option.isNone_none, if_true]; have L4 := padded_len4 y (by omega) h2; have L2 := padded_len2 m (by omega) (by omega); have L3 := padded_len2 d (by omega) (by omega); have e45 : (⟨#[45]⟩ : ByteArray) = ⟨([45] : List UInt8).toArray⟩ := rfl; rw [show ((4 : Nat) : Int) = 4 from rfl] at D4; rw [show ((2 : Nat) : Int) = 2 from rfl] at D2 D3; simp only [D4, D2, D3, Option.bind_some, e45, ba_app, ba_size, List.length_append, L4, L2, L3, List.length_cons, List.length_nil]; rw [if_pos (by omega), if_pos (by omega), if_pos (by omega), if_pos (by omega)]
    simp [dtext]
  · rw [if_neg v, if_neg v]
    simp
end Go.Proofs.YtfjifhkgifefeaaGreatDoor.CivP
end

section
/- What the printed functions of civil days answer, second part: the day out of reach, the weekday, and the document's days. -/
namespace Go.Proofs.YtfjifhkgifefeaaGreatDoor.CivP
open Go.RowKit Go.Proofs.YtfjifhkgifefeaaGreatDoor.PA Go.Proofs.YtfjifhkgifefeaaGreatDoor.CivM Go.Proofs.YtfjifhkgifefeaaGreatDoorW.PrintWords
theorem of_j0 (k : Nat) (hk : 2 ≤ k) (era c q s t m day : Int) (he0 : -100000000000000 ≤ era) (he1 : era ≤ 9999) (hc : 0 ≤ c) (hc3 : c ≤ 3) (hq : 0 ≤ q) (hq1 : q ≤ 24) (hs : 0 ≤ s) (hs3 : s ≤ 3) (ht : 0 ≤ t) (ht2 : t ≤ 365)
    (hm : m = (5 * t + 2) / 153) (hd : day = 36524 * c + 1461 * q + 365 * s + t) (hd1 : day < 146097) (hy : (day - day / 1460 + day / 36524 - day / 146096) / 365 = 100 * c + 4 * q + s)
    (nv : ¬ vld (400 * era + (100 * c + 4 * q + s) + m / 10) ((m + 2) % 12 + 1) (t - (153 * m + 2) / 5 + 1)) :
    civil_Of.j0 (k + 1) era day false = some (0, 0, 0, some 2) := by
  have hd0 : 0 ≤ day := by clear hy hm; omega
  have hm2 : 0 ≤ m ∧ m ≤ 11 := by clear hy hd; omega
  have w0 : wrap64 ((wrap64 ((wrap64 (day - (wrap64 (Int.tdiv day 1460)))) + (wrap64 (Int.tdiv day 36524)))) - (wrap64 (Int.tdiv day 146096))) = day - day / 1460 + day / 36524 - day / 146096 := by
    clear hm hd hy nv hm2
    simp (disch := omega) only [wid, tdv]
  have nn : 0 ≤ day - day / 1460 + day / 36524 - day / 146096 := by clear hm hd hy nv hm2 w0; omega
  have w1 : wrap64 (Int.tdiv (day - day / 1460 + day / 36524 - day / 146096) 365) = 100 * c + 4 * q + s := by
    clear w0 nv; rw [tdv nn, hy]; clear hy; rw [wid (by omega) (by omega)]
  have w2 : wrap64 (day - (wrap64 ((wrap64 ((wrap64 (365 * (100 * c + 4 * q + s))) + (wrap64 (Int.tdiv (100 * c + 4 * q + s) 4)))) - (wrap64 (Int.tdiv (100 * c + 4 * q + s) 100))))) = t := by
    clear w0 w1 nn hy nv hm hm2
    have v4 : (100 * c + 4 * q + s) / 4 = 25 * c + q := by omega
    have v1 : (100 * c + 4 * q + s) / 100 = c := by omega
    simp (disch := omega) only [wid, tdv]
    rw [v4, v1]; omega
  have w3 : wrap64 (Int.tdiv (wrap64 ((wrap64 (5 * t)) + 2)) 153) = m := by
    clear w0 w1 w2 nn hy nv hd hd0 hd1 hm2
    simp (disch := omega) only [wid, tdv]
    omega
  have w4 : wrap64 ((wrap64 ((wrap64 (400 * era)) + (100 * c + 4 * q + s))) + (wrap64 (Int.tdiv m 10))) = 400 * era + (100 * c + 4 * q + s) + m / 10 := by
    clear w0 w1 w2 w3 nn hy nv hd hd0 hd1 hm
    simp (disch := omega) only [wid, tdv]
  have w5 : wrap64 ((Int.tmod (wrap64 (m + 2)) 12) + 1) = (m + 2) % 12 + 1 := by
    clear w0 w1 w2 w3 w4 nn hy nv hd hd0 hd1 hm
    simp (disch := omega) only [wid, tmd]
  have w6 : wrap64 ((wrap64 (t - (wrap64 (Int.tdiv (wrap64 ((wrap64 (153 * m)) + 2)) 5)))) + 1) = t - (153 * m + 2) / 5 + 1 := by
    clear w0 w1 w2 w3 w4 w5 nn hy nv hd hd0 hd1 hm
    simp (disch := omega) only [wid, tdv]
  simp only [civil_Of.j0, Bool.false_eq_true, if_false]; simp only [w0, w1, w2, w3, w4, w5, w6]; rw [check k _ _ _ hk, if_neg nv]; simp only [Option.bind_some, Option.isNone_some, Bool.false_eq_true, if_false]
theorem of_no (k : Nat) (n : Int) (hk : 3 ≤ k) (w0 : -9223372036854775808 ≤ n) (w1 : n ≤ 9223372036854775807) (h : n < -719162 ∨ 2932896 < n) : civil_Of.f k n = some (0, 0, 0, some 2) := by
  obtain ⟨k, rfl⟩ : ∃ j, k = j + 1 := ⟨k - 1, by omega⟩
  unfold civil_Of.f
  rw [add_ok w0 w1 (by omega) (by omega)]
  by_cases hs : n + 719468 ≤ 9223372036854775807
  · rw [if_pos hs]; simp only [Option.bind_some, Option.isNone_none, if_true]; rw [div_any (by omega) (by omega) (by omega) (by omega)]; simp only [Option.bind_some, Option.isNone_none, if_true]
    have hera0 : -100000000000000 ≤ (n + 719468) / 146097 := by omega
    have hday : 146097 * ((n + 719468) / 146097) + (n + 719468) % 146097 = n + 719468 := by omega
    have hd0 : 0 ≤ (n + 719468) % 146097 ∧ (n + 719468) % 146097 < 146097 := by omega
    generalize (n + 719468) / 146097 = era at *
    generalize (n + 719468) % 146097 = day at *
    by_cases he : era > 9999
    · rw [decide_eq_true he]; simp only [civil_Of.j0, if_true]
    · rw [decide_eq_false he]; obtain ⟨c, q, s, t, hd, hc, hc3, hq, hq1, hs, hs3, ht, hx⟩ := dec day hd0.1 hd0.2; have hy := yoe_eq c q s t hc hc3 hq hq1 hs hs3 ht hx; rw [← hd] at hy
      unfold yoe at hy
      refine of_j0 k (by omega) era c q s t ((5 * t + 2) / 153) day hera0 (by omega) hc hc3 hq hq1 hs hs3 ht (by omega) rfl hd hd0.2 hy ?_
      intro v
      have P := (of_parts era c q s t ((5 * t + 2) / 153) hc hc3 hq hq1 hs hs3 ht hx rfl).2.2.2.2; have b := num_bd v; rw [P, ← hd] at b; clear hy v P
      omega
  · rw [if_neg hs]
    simp
theorem weekday {n : Int} (w0 : -9223372036854775808 ≤ n) (w1 : n ≤ 9223372036854775807) : civil_Weekday.f n = some ((n + 3) % 7 + 1) := by
  unfold civil_Weekday.f
  rw [div_any w0 w1 (by omega) (by omega)]; simp only [Option.bind_some, Option.isNone_none, if_true]; have h := Int.emod_nonneg n (show (7:Int) ≠ 0 by omega); have h2 := Int.emod_lt_of_pos n (show (0:Int) < 7 by omega)
  simp (disch := omega) only [wid, tmd]
  congr 1; omega
theorem ryear_l (k : Nat) : ∀ (x0 x3 x4 : Int), 1 ≤ x4 → x0 ≤ 20000 → x3 = dby x4 → x4 ≤ x0 → (x0 - x4).toNat < k → fuseeref07_year.l0 k x0 x3 x4 = some (dby x0) := by
  induction k with
  | zero => intro x0 x3 x4 _ _ _ _ h; omega
  | succ k ih =>
    intro x0 x3 x4 h1 h2 h3 h4 h5
    have hb : 0 ≤ dby x4 := by have := dby_mono 1 x4 h1; have e4 : dby 1 = 0 := by decide
                               omega
    have hb2 : dby x4 ≤ 10000000 := by have := dby_mono x4 20000 (by omega); have e4 : dby 20000 = 7304485 - 1 + 0 := by decide
                                       omega
    have L := lpI_01 x4; have e := dby_succ x4; simp only [fuseeref07_year.l0]
    by_cases h : x4 < x0
    · rw [if_pos h, rleap]; simp only [Option.bind_some]; subst h3
      by_cases hl : lpI x4 = 1
      · rw [decide_eq_true hl]; simp only [if_true]
        simp (disch := omega) only [wid]
        exact ih _ _ _ (by omega) h2 (by omega) (by omega) (by omega)
      · rw [decide_eq_false hl]; simp only [Bool.false_eq_true, if_false]
        simp (disch := omega) only [wid]
        exact ih _ _ _ (by omega) h2 (by omega) (by omega) (by omega)
    · rw [if_neg h]
      have : x4 = x0 := by omega
      rw [h3, this]
theorem ryear (k : Nat) (y : Int) (h1 : 1 ≤ y) (h2 : y ≤ 20000) (hk : 20001 ≤ k) : fuseeref07_year.f k y = some (dby y) :=
  ryear_l k y 0 1 (by omega) h2 (by decide) h1 (by omega)
theorem rdays_l (k : Nat) : ∀ (x3 x4 y m d : Int), vld y m d → 1 ≤ x4 → x4 ≤ m → x3 = dby y + cum y x4 → (m - x4).toNat + 2 ≤ k → fuseeref07_Days.l0 k x3 x4 y m d = some (num y m d) := by
  induction k with
  | zero => intro x3 x4 y m d _ _ _ _ h; omega
  | succ k ih =>
    intro x3 x4 y m d v h1 h2 h3 h4
    have hv := v; obtain ⟨v1, v2, v3, v4, v5, v6⟩ := v; have hd := dim_bd y m; have hd4 := dim_bd y x4
    have hb : 0 ≤ dby y := by have := dby_mono 1 y v1; have e4 : dby 1 = 0 := by decide
                              omega
    have hb2 : dby y ≤ 10000000 := by have := dby_mono y 20000 (by omega); have e4 : dby 20000 = 7304485 - 1 + 0 := by decide
                                      omega
    have hc : 0 ≤ cum y x4 ∧ cum y x4 ≤ 400 := by
      have := lpI_01 y; have c1 := cum_le y x4 1 h1 (by omega) (by omega) (by have := dim_pos y x4 h1 (by omega); omega)
      omega
    simp only [fuseeref07_Days.l0]
    by_cases h : x4 < m
    · rw [if_pos h, rmonth k y x4 (by omega)]; simp only [Option.bind_some]; have e := cum_succ y x4 h1 (by omega)
      simp (disch := omega) only [wid]
      exact ih _ _ _ _ _ hv (by omega) (by omega) (by omega) (by omega)
    · rw [if_neg h]
      have : x4 = m := by omega
      subst this
      simp (disch := omega) only [wid]
      unfold num; congr 1; omega
theorem rdays (k : Nat) (y m d : Int) (v : vld y m d) (hk : 20001 ≤ k) : fuseeref07_Days.f k y m d = some (num y m d) := by
  obtain ⟨v1, v2, v3, v4, v5, v6⟩ := id v
  unfold fuseeref07_Days.f
  rw [ryear k y v1 (by omega) hk]; simp only [Option.bind_some]
  exact rdays_l k _ _ _ _ _ v (by omega) v3 (by rw [cum_one]; omega) (by omega)
end Go.Proofs.YtfjifhkgifefeaaGreatDoor.CivP
end

section
namespace Go.Proofs.YtfjifhkgifefeaaGreatDoor.PA
open Go.Proofs.YtfjifhkgifefeaaGreatDoor.Giv Go.RowKit Go.Proofs.YtfjifhkgifefeaaGreatDoorW.PrintWords Go.Proofs.YtfjifhkgifefeaaGreatDoorW.PrintLast Go.Proofs.YtfjifhkgifefeaaGreatDoorW.PrintMore
attribute [local go_sem] max2_int min2_int max_two min_two max_three min_three max_four min_four   -- for this text's walks alone
set_option linter.unusedVariables false
set_option linter.unusedSimpArgs false
theorem eqA50 (d : Nat) (w : World) (x0 y0 : Int) (x1 y1 : Int) (x2 y2 : Int) :
  (Op.equalIn (d + 2) 50 (.agg #[.int .i64 x0, .int .i64 x1, .int .i64 x2]) (.agg #[.int .i64 y0, .int .i64 y1, .int .i64 y2])).run Tryz.prog w = .ok (x0 == y0 && (x1 == y1 && (x2 == y2))) w := by
 refine eqA_of Tryz.underlying50 (by kernel_rfl) ?_
 refine eqf_cons (by rfl) (by go_simp; rfl) (by go_simp; rfl) (by go_simp) ?_
 refine eqf_cons (by rfl) (by go_simp; rfl) (by go_simp; rfl) (by go_simp) ?_
 exact eqf_last (by rfl) (by go_simp; rfl) (by go_simp; rfl) (by go_simp)
end Go.Proofs.YtfjifhkgifefeaaGreatDoor.PA
end

section
namespace Go.Proofs.YtfjifhkgifefeaaGreatDoor.PA
open Giv Go.RowKit YtfjifhkgifefeaaGreatDoorW.PrintWords YtfjifhkgifefeaaGreatDoorW.PrintLast YtfjifhkgifefeaaGreatDoorW.PrintMore
attribute [local go_sem] max2_int min2_int max_two min_two max_three min_three max_four min_four
set_option linter.unusedVariables false
set_option linter.unusedSimpArgs false
attribute [local go_sem high] eqA50
def daytime_Check.f (a0_0 : Int) (a0_1 : Int) (a0_2 : Int) : Option (Option Int) := if (a0_0 == 23 && (a0_1 == 59 && (a0_2 == 60))) = true then (some none) else (if a0_0 < 0 then (some (some 1)) else (if a0_0 > 23 then (some (some 1)) else (if a0_1 < 0 then (some (some 1)) else (if a0_1 > 59 then (some (some 1)) else (if a0_2 < 0 then (some (some 1)) else (if a0_2 > 59 then (some (some 1)) else (some none)))))))
theorem daytime_Check.calls (a0_0 : Int) (a0_1 : Int) (a0_2 : Int) (r : Option Int) (w : World) (h : daytime_Check.f a0_0 a0_1 a0_2 = some r) :
  Calls Tryz.prog 35 #[.agg #[.int .i64 a0_0, .int .i64 a0_1, .int .i64 a0_2]] w fun e w' => e = .returned (errW r) ∧ Below w.heap.size w w' := by
 have hu50 := Tryz.underlying50; have hu28 := Tryz.underlying28; have hu157 := Tryz.underlying157; have HB := Aside0.mk (Below.refl w.heap.size w); have H := h; clear h
 unfold daytime_Check.f at H
 by_cases c2 : (a0_0 == 23 && (a0_1 == 59 && (a0_2 == 60))) = true
 ·rw [if_pos c2] at H; have c2b0 : (a0_0 == 23 && (a0_1 == 59 && (a0_2 == 60))) = true := c2
  (try (have c2b1 : decide (a0_0 = 23 && (a0_1 == 59 && (a0_2 == 60))) = true := by simpa using c2))
  (try (have c2b2 : (a0_0 == 23 && (a0_1 == 59 && (a0_2 == 60))) = true := by simpa using c2))
  clear c2
  obtain rfl := Option.some.inj H
  go_enter Tryz.func35, Tryz.ntmps35
  go_wp2_with (first | ((with_reducible refine gate_dst (N := 1) rfl ?_); refine be_ (N := 1) (cs := #[.int .i64 a0_0, .int .i64 a0_1, .int .i64 a0_2]) (t := 50) ?_; intro gb245 hg w3 hbox hb; have BK245 := Aside0.mk hbox; have GW245 := Aside0.mk (sz_ hg : w.heap.size ≤ gb245); have GE245 := GW245; replace HB := bs_ hb; clear hb hbox hg; have hcz4_0 : w3.cell? ⟨gb245, 0, none⟩ = some (.int .i64 a0_0) := (blk_cell BK245.out 0).trans rfl; have hcz4_1 : w3.cell? ⟨gb245, 1, none⟩ = some (.int .i64 a0_1) := (blk_cell BK245.out 1).trans rfl; have hcz4_2 : w3.cell? ⟨gb245, 2, none⟩ = some (.int .i64 a0_2) := (blk_cell BK245.out 2).trans rfl; have hfz4_0 := blk_frozen BK245.out 0; have hfz4_1 := blk_frozen BK245.out 1; have hfz4_2 := blk_frozen BK245.out 2))
  go_ret
  exact en_
 ·rw [if_neg c2] at H
  have c2b0 : (a0_0 == 23 && (a0_1 == 59 && (a0_2 == 60))) = false := by simpa using c2
  (try (have c2b1 : decide (a0_0 = 23 && (a0_1 == 59 && (a0_2 == 60))) = false := by simpa using c2))
  (try (have c2b2 : (a0_0 == 23 && (a0_1 == 59 && (a0_2 == 60))) = false := by simpa using c2))
  (try (have c2b3 : ¬ (a0_0 = 23 && (a0_1 == 59 && (a0_2 == 60))) := by simpa using c2))
  clear c2
  by_cases c5 : a0_0 < 0
  ·rw [if_pos c5] at H; have c5b0 : decide (a0_0 < 0) = true := decide_eq_true c5; clear c5
   obtain rfl := Option.some.inj H
   go_enter Tryz.func35, Tryz.ntmps35
   go_wp2_with (first | ((with_reducible refine gate_dst (N := 1) rfl ?_); refine be_ (N := 1) (cs := #[.int .i64 a0_0, .int .i64 a0_1, .int .i64 a0_2]) (t := 50) ?_; intro gb245 hg w6 hbox hb; have BK245 := Aside0.mk hbox; have GW245 := Aside0.mk (sz_ hg : w.heap.size ≤ gb245); have GE245 := GW245; replace HB := bs_ hb; clear hb hbox hg; have hcz7_0 : w6.cell? ⟨gb245, 0, none⟩ = some (.int .i64 a0_0) := (blk_cell BK245.out 0).trans rfl; have hcz7_1 : w6.cell? ⟨gb245, 1, none⟩ = some (.int .i64 a0_1) := (blk_cell BK245.out 1).trans rfl; have hcz7_2 : w6.cell? ⟨gb245, 2, none⟩ = some (.int .i64 a0_2) := (blk_cell BK245.out 2).trans rfl; have hfz7_0 := blk_frozen BK245.out 0; have hfz7_1 := blk_frozen BK245.out 1; have hfz7_2 := blk_frozen BK245.out 2))
   go_ret
   exact en_
  ·rw [if_neg c5] at H; have c5b0 : decide (a0_0 < 0) = false := decide_eq_false c5; clear c5
   by_cases c8 : a0_0 > 23
   ·rw [if_pos c8] at H; have c8b0 : decide (23 < a0_0) = true := decide_eq_true c8; clear c8
    obtain rfl := Option.some.inj H
    go_enter Tryz.func35, Tryz.ntmps35
    go_wp2_with (first | ((with_reducible refine gate_dst (N := 1) rfl ?_); refine be_ (N := 1) (cs := #[.int .i64 a0_0, .int .i64 a0_1, .int .i64 a0_2]) (t := 50) ?_; intro gb245 hg w9 hbox hb; have BK245 := Aside0.mk hbox; have GW245 := Aside0.mk (sz_ hg : w.heap.size ≤ gb245); have GE245 := GW245; replace HB := bs_ hb; clear hb hbox hg; have hcz10_0 : w9.cell? ⟨gb245, 0, none⟩ = some (.int .i64 a0_0) := (blk_cell BK245.out 0).trans rfl; have hcz10_1 : w9.cell? ⟨gb245, 1, none⟩ = some (.int .i64 a0_1) := (blk_cell BK245.out 1).trans rfl; have hcz10_2 : w9.cell? ⟨gb245, 2, none⟩ = some (.int .i64 a0_2) := (blk_cell BK245.out 2).trans rfl; have hfz10_0 := blk_frozen BK245.out 0; have hfz10_1 := blk_frozen BK245.out 1; have hfz10_2 := blk_frozen BK245.out 2))
    go_ret
    exact en_
   ·rw [if_neg c8] at H; have c8b0 : decide (23 < a0_0) = false := decide_eq_false c8; clear c8
    by_cases c11 : a0_1 < 0
    ·rw [if_pos c11] at H; have c11b0 : decide (a0_1 < 0) = true := decide_eq_true c11; clear c11
     obtain rfl := Option.some.inj H
     go_enter Tryz.func35, Tryz.ntmps35
     go_wp2_with (first | ((with_reducible refine gate_dst (N := 1) rfl ?_); refine be_ (N := 1) (cs := #[.int .i64 a0_0, .int .i64 a0_1, .int .i64 a0_2]) (t := 50) ?_; intro gb245 hg w12 hbox hb; have BK245 := Aside0.mk hbox; have GW245 := Aside0.mk (sz_ hg : w.heap.size ≤ gb245); have GE245 := GW245; replace HB := bs_ hb; clear hb hbox hg; have hcz13_0 : w12.cell? ⟨gb245, 0, none⟩ = some (.int .i64 a0_0) := (blk_cell BK245.out 0).trans rfl; have hcz13_1 : w12.cell? ⟨gb245, 1, none⟩ = some (.int .i64 a0_1) := (blk_cell BK245.out 1).trans rfl; have hcz13_2 : w12.cell? ⟨gb245, 2, none⟩ = some (.int .i64 a0_2) := (blk_cell BK245.out 2).trans rfl; have hfz13_0 := blk_frozen BK245.out 0; have hfz13_1 := blk_frozen BK245.out 1; have hfz13_2 := blk_frozen BK245.out 2))
     go_ret
     exact en_
    ·rw [if_neg c11] at H; have c11b0 : decide (a0_1 < 0) = false := decide_eq_false c11; clear c11
     by_cases c14 : a0_1 > 59
     ·rw [if_pos c14] at H; have c14b0 : decide (59 < a0_1) = true := decide_eq_true c14; clear c14
      obtain rfl := Option.some.inj H
      go_enter Tryz.func35, Tryz.ntmps35
      go_wp2_with (first | ((with_reducible refine gate_dst (N := 1) rfl ?_); refine be_ (N := 1) (cs := #[.int .i64 a0_0, .int .i64 a0_1, .int .i64 a0_2]) (t := 50) ?_; intro gb245 hg w15 hbox hb; have BK245 := Aside0.mk hbox; have GW245 := Aside0.mk (sz_ hg : w.heap.size ≤ gb245); have GE245 := GW245; replace HB := bs_ hb; clear hb hbox hg; have hcz16_0 : w15.cell? ⟨gb245, 0, none⟩ = some (.int .i64 a0_0) := (blk_cell BK245.out 0).trans rfl; have hcz16_1 : w15.cell? ⟨gb245, 1, none⟩ = some (.int .i64 a0_1) := (blk_cell BK245.out 1).trans rfl; have hcz16_2 : w15.cell? ⟨gb245, 2, none⟩ = some (.int .i64 a0_2) := (blk_cell BK245.out 2).trans rfl; have hfz16_0 := blk_frozen BK245.out 0; have hfz16_1 := blk_frozen BK245.out 1; have hfz16_2 := blk_frozen BK245.out 2))
      go_ret
      exact en_
     ·rw [if_neg c14] at H; have c14b0 : decide (59 < a0_1) = false := decide_eq_false c14; clear c14
      by_cases c17 : a0_2 < 0
      ·rw [if_pos c17] at H; have c17b0 : decide (a0_2 < 0) = true := decide_eq_true c17; clear c17
       obtain rfl := Option.some.inj H
       go_enter Tryz.func35, Tryz.ntmps35
       go_wp2_with (first | ((with_reducible refine gate_dst (N := 1) rfl ?_); refine be_ (N := 1) (cs := #[.int .i64 a0_0, .int .i64 a0_1, .int .i64 a0_2]) (t := 50) ?_; intro gb245 hg w18 hbox hb; have BK245 := Aside0.mk hbox; have GW245 := Aside0.mk (sz_ hg : w.heap.size ≤ gb245); have GE245 := GW245; replace HB := bs_ hb; clear hb hbox hg; have hcz19_0 : w18.cell? ⟨gb245, 0, none⟩ = some (.int .i64 a0_0) := (blk_cell BK245.out 0).trans rfl; have hcz19_1 : w18.cell? ⟨gb245, 1, none⟩ = some (.int .i64 a0_1) := (blk_cell BK245.out 1).trans rfl; have hcz19_2 : w18.cell? ⟨gb245, 2, none⟩ = some (.int .i64 a0_2) := (blk_cell BK245.out 2).trans rfl; have hfz19_0 := blk_frozen BK245.out 0; have hfz19_1 := blk_frozen BK245.out 1; have hfz19_2 := blk_frozen BK245.out 2))
       go_ret
       exact en_
      ·rw [if_neg c17] at H; have c17b0 : decide (a0_2 < 0) = false := decide_eq_false c17; clear c17
       by_cases c20 : a0_2 > 59
       ·rw [if_pos c20] at H; have c20b0 : decide (59 < a0_2) = true := decide_eq_true c20; clear c20
        obtain rfl := Option.some.inj H
        go_enter Tryz.func35, Tryz.ntmps35
        go_wp2_with (first | ((with_reducible refine gate_dst (N := 1) rfl ?_); refine be_ (N := 1) (cs := #[.int .i64 a0_0, .int .i64 a0_1, .int .i64 a0_2]) (t := 50) ?_; intro gb245 hg w21 hbox hb; have BK245 := Aside0.mk hbox; have GW245 := Aside0.mk (sz_ hg : w.heap.size ≤ gb245); have GE245 := GW245; replace HB := bs_ hb; clear hb hbox hg; have hcz22_0 : w21.cell? ⟨gb245, 0, none⟩ = some (.int .i64 a0_0) := (blk_cell BK245.out 0).trans rfl; have hcz22_1 : w21.cell? ⟨gb245, 1, none⟩ = some (.int .i64 a0_1) := (blk_cell BK245.out 1).trans rfl; have hcz22_2 : w21.cell? ⟨gb245, 2, none⟩ = some (.int .i64 a0_2) := (blk_cell BK245.out 2).trans rfl; have hfz22_0 := blk_frozen BK245.out 0; have hfz22_1 := blk_frozen BK245.out 1; have hfz22_2 := blk_frozen BK245.out 2))
        go_ret
        exact en_
       ·rw [if_neg c20] at H; have c20b0 : decide (59 < a0_2) = false := decide_eq_false c20; clear c20
        obtain rfl := Option.some.inj H
        go_enter Tryz.func35, Tryz.ntmps35
        go_wp2_with (first | ((with_reducible refine gate_dst (N := 1) rfl ?_); refine be_ (N := 1) (cs := #[.int .i64 a0_0, .int .i64 a0_1, .int .i64 a0_2]) (t := 50) ?_; intro gb245 hg w23 hbox hb; have BK245 := Aside0.mk hbox; have GW245 := Aside0.mk (sz_ hg : w.heap.size ≤ gb245); have GE245 := GW245; replace HB := bs_ hb; clear hb hbox hg; have hcz24_0 : w23.cell? ⟨gb245, 0, none⟩ = some (.int .i64 a0_0) := (blk_cell BK245.out 0).trans rfl; have hcz24_1 : w23.cell? ⟨gb245, 1, none⟩ = some (.int .i64 a0_1) := (blk_cell BK245.out 1).trans rfl; have hcz24_2 : w23.cell? ⟨gb245, 2, none⟩ = some (.int .i64 a0_2) := (blk_cell BK245.out 2).trans rfl; have hfz24_0 := blk_frozen BK245.out 0; have hfz24_1 := blk_frozen BK245.out 1; have hfz24_2 := blk_frozen BK245.out 2))
        go_ret
        exact en_
end Go.Proofs.YtfjifhkgifefeaaGreatDoor.PA
end

section
namespace Go.Proofs.YtfjifhkgifefeaaGreatDoor.PA
open Giv Go.RowKit YtfjifhkgifefeaaGreatDoorW.PrintWords YtfjifhkgifefeaaGreatDoorW.PrintLast YtfjifhkgifefeaaGreatDoorW.PrintMore
attribute [local go_sem] max2_int min2_int max_two min_two max_three min_three max_four min_four
set_option linter.unusedVariables false
set_option linter.unusedSimpArgs false
def daytime_Seconds.f (a0_0 : Int) (a0_1 : Int) (a0_2 : Int) : Option (Int × Option Int) := (daytime_Check.f a0_0 a0_1 a0_2).bind fun t247 => (if t247.isNone = true then (some (wrap64 ((wrap64 ((wrap64 (a0_0 * 3600)) + (wrap64 (a0_1 * 60)))) + a0_2), none)) else (some (0, some (t247.getD 0))))
theorem daytime_Seconds.calls (a0_0 : Int) (a0_1 : Int) (a0_2 : Int) (r1 : Int) (r2 : Option Int) (w : World) (h : daytime_Seconds.f a0_0 a0_1 a0_2 = some (r1, r2)) :
  Calls Tryz.prog 32 #[.agg #[.int .i64 a0_0, .int .i64 a0_1, .int .i64 a0_2]] w fun e w' => e = .returned (.tuple #[.int .i64 r1, errW r2]) ∧ Below w.heap.size w w' := by
 have hu50 := Tryz.underlying50; have hu28 := Tryz.underlying28; have hu157 := Tryz.underlying157; have HB := Aside0.mk (Below.refl w.heap.size w); have H := h; clear h
 unfold daytime_Seconds.f at H
 replace H := Option.bind_eq_some_iff.mp H; obtain ⟨t247, A20, H⟩ := H; (try dsimp only at H); have A2 := Aside0.mk A20; clear A20
 rcases t247 with _ | q248
 ·rw [if_pos (show (none : Option Int).isNone = true by rfl)] at H
  try dsimp only [Option.getD_some] at H
  try simp only [errW_none, errW_some]
  simp only [Option.some.injEq, Prod.mk.injEq] at H; obtain ⟨rfl, rfl⟩ := H
  go_enter Tryz.func32, Tryz.ntmps32
  go_wp2_with (first | ((with_reducible refine gate_dst (N := 1) rfl ?_); refine be_ (N := 1) (cs := #[.int .i64 a0_0, .int .i64 a0_1, .int .i64 a0_2]) (t := 50) ?_; intro gb246 hg w3 hbox hb; have BK246 := Aside0.mk hbox; have GW246 := Aside0.mk (sz_ hg : w.heap.size ≤ gb246); have GE246 := GW246; replace HB := bs_ hb; clear hb hbox hg; have hcz4_0 : w3.cell? ⟨gb246, 0, none⟩ = some (.int .i64 a0_0) := (blk_cell BK246.out 0).trans rfl; have hcz4_1 : w3.cell? ⟨gb246, 1, none⟩ = some (.int .i64 a0_1) := (blk_cell BK246.out 1).trans rfl; have hcz4_2 : w3.cell? ⟨gb246, 2, none⟩ = some (.int .i64 a0_2) := (blk_cell BK246.out 2).trans rfl; have hfz4_0 := blk_frozen BK246.out 0; have hfz4_1 := blk_frozen BK246.out 1; have hfz4_2 := blk_frozen BK246.out 2) | ((with_reducible refine gate_callee (f := 35) rfl ?_); refine gd_ (some 6) Tryz.func35 (daytime_Check.calls a0_0 a0_1 a0_2 none _ A2.out) ?_; intro w5 hb; replace BK246 := bb_ BK246.out hb; replace HB := bs_ hb; (try clear hb); (try simp only [errW_none, errW_some]); have hcz6_0 : w5.cell? ⟨gb246, 0, none⟩ = some (.int .i64 a0_0) := (blk_cell BK246.out 0).trans rfl; have hcz6_1 : w5.cell? ⟨gb246, 1, none⟩ = some (.int .i64 a0_1) := (blk_cell BK246.out 1).trans rfl; have hcz6_2 : w5.cell? ⟨gb246, 2, none⟩ = some (.int .i64 a0_2) := (blk_cell BK246.out 2).trans rfl; have hfz6_0 := blk_frozen BK246.out 0; have hfz6_1 := blk_frozen BK246.out 1; have hfz6_2 := blk_frozen BK246.out 2))
  go_ret2
  exact en_
 ·rw [if_neg (show ¬ (some q248).isNone = true by simp)] at H
  try dsimp only [Option.getD_some] at H
  try simp only [errW_none, errW_some]
  simp only [Option.some.injEq, Prod.mk.injEq] at H; obtain ⟨rfl, rfl⟩ := H
  go_enter Tryz.func32, Tryz.ntmps32
  go_wp2_with (first | ((with_reducible refine gate_dst (N := 1) rfl ?_); refine be_ (N := 1) (cs := #[.int .i64 a0_0, .int .i64 a0_1, .int .i64 a0_2]) (t := 50) ?_; intro gb246 hg w7 hbox hb; have BK246 := Aside0.mk hbox; have GW246 := Aside0.mk (sz_ hg : w.heap.size ≤ gb246); have GE246 := GW246; replace HB := bs_ hb; clear hb hbox hg; have hcz8_0 : w7.cell? ⟨gb246, 0, none⟩ = some (.int .i64 a0_0) := (blk_cell BK246.out 0).trans rfl; have hcz8_1 : w7.cell? ⟨gb246, 1, none⟩ = some (.int .i64 a0_1) := (blk_cell BK246.out 1).trans rfl; have hcz8_2 : w7.cell? ⟨gb246, 2, none⟩ = some (.int .i64 a0_2) := (blk_cell BK246.out 2).trans rfl; have hfz8_0 := blk_frozen BK246.out 0; have hfz8_1 := blk_frozen BK246.out 1; have hfz8_2 := blk_frozen BK246.out 2) | ((with_reducible refine gate_callee (f := 35) rfl ?_); refine gd_ (some 6) Tryz.func35 (daytime_Check.calls a0_0 a0_1 a0_2 (some q248) _ A2.out) ?_; intro w9 hb; replace BK246 := bb_ BK246.out hb; replace HB := bs_ hb; (try clear hb); (try simp only [errW_none, errW_some])))
  go_ret2
  exact en_
end Go.Proofs.YtfjifhkgifefeaaGreatDoor.PA
end

section
namespace Go.Proofs.YtfjifhkgifefeaaGreatDoor.PA
open Giv Go.RowKit YtfjifhkgifefeaaGreatDoorW.PrintWords YtfjifhkgifefeaaGreatDoorW.PrintLast YtfjifhkgifefeaaGreatDoorW.PrintMore
attribute [local go_sem] max2_int min2_int max_two min_two max_three min_three max_four min_four
set_option linter.unusedVariables false
set_option linter.unusedSimpArgs false
def daytime_Of.j0 : Nat → Int → Bool → Option (Int × Int × Int × Option Int)
 | 0, _, _ => none
 | k + 1, x0, x4 => if x4 = true then (some (0, 0, 0, some 1)) else (if x0 = 86400 then (some (23, 59, 60, none)) else (some (wrap64 (Int.tdiv x0 3600), Int.tmod (wrap64 (Int.tdiv x0 60)) 60, Int.tmod x0 60, none)))
def daytime_Of.f (k : Nat) (a0 : Int) : Option (Int × Int × Int × Option Int) := if a0 < 0 then (daytime_Of.j0 k a0 true) else (daytime_Of.j0 k a0 (decide (a0 > 86400)))
theorem daytime_Of.calls (k : Nat) (a0 : Int) (r1 : Int) (r2 : Int) (r3 : Int) (r4 : Option Int) (w : World) (h : daytime_Of.f k a0 = some (r1, r2, r3, r4)) :
  Calls Tryz.prog 33 #[.int .i64 a0] w fun e w' => e = .returned (.tuple #[.agg #[.int .i64 r1, .int .i64 r2, .int .i64 r3], errW r4]) ∧ Below w.heap.size w w' := by
 have hu50 := Tryz.underlying50; have hu28 := Tryz.underlying28; have hu157 := Tryz.underlying157; have HB := Aside0.mk (Below.refl w.heap.size w); have H := h; clear h; replace H : (if a0 < 0 then (daytime_Of.j0 k a0 true) else (daytime_Of.j0 k a0 (decide (a0 > 86400)))) = some (r1, r2, r3, r4) := H; have HC2 := Aside0.mk H; clear H
 go_enter Tryz.func33, Tryz.ntmps33
 go_upto_region 1 with (first | ((with_reducible refine gate_dst (N := 2) rfl ?_); refine be_ (N := 2) (cs := #[.int .i64 0, .int .i64 0, .int .i64 0]) (t := 50) ?_; intro gb249 hg w3 hbox hb; have BK249 := Aside0.mk hbox; have GW249 := Aside0.mk (sz_ hg : w.heap.size ≤ gb249); have GE249 := GW249; replace HB := bs_ hb; clear hb hbox hg))
 (try simp only [Act.put, List.setIfInBounds_toArray, List.set_cons_zero, List.set_cons_succ])
 go_cut [4] (fun v4 wc => ∃ (kq : Nat) (x4_1 : Bool), v4 = .bool x4_1 ∧ Aside0 (daytime_Of.j0 kq a0 x4_1 = some (r1, r2, r3, r4)) ∧ Aside0 (kq ≤ k) ∧ Aside0 (wc.heap[gb249]? = some (.cells #[.int .i64 0, .int .i64 0, .int .i64 0] 50 (0, 0))) ∧ Aside0 (Below w.heap.size w wc))
 case first =>
  have H := HC2.out; clear HC2
  by_cases c4 : a0 < 0
  ·rw [if_pos c4] at H; have c4b0 : decide (a0 < 0) = true := decide_eq_true c4; clear c4
   (first | rw [c4b0] | (simp only [i64_w, i32_w]; rw [c4b0]) | skip)
   have H' := Aside0.mk H; clear H
   go_wp2
   go_meet
   case rel => exact ⟨_, (true), rs_, H', ⟨by first | omega | exact Nat.le_refl _⟩, ⟨bk_⟩, ⟨bl_⟩⟩
  ·rw [if_neg c4] at H; have c4b0 : decide (a0 < 0) = false := decide_eq_false c4; clear c4
   (first | rw [c4b0] | (simp only [i64_w, i32_w]; rw [c4b0]) | skip)
   have H' := Aside0.mk H; clear H
   go_wp2
   go_meet
   case rel => exact ⟨_, (decide (a0 > 86400)), rs_, H', ⟨by first | omega | exact Nat.le_refl _⟩, ⟨bk_⟩, ⟨bl_⟩⟩
 case rest =>
  clear HC2; (try clear p2); (try clear c3); (try clear c4); (try clear c4b0); obtain ⟨kq, x4_1, rfl, HA, HJ1, BK249, HB⟩ := hcut
  cases kq with
  | zero => exact absurd HA.out (by simp [daytime_Of.j0])
  | succ kj1 =>
   have H := HA.out; clear HA; simp only [daytime_Of.j0] at H
   by_cases c5 : x4_1 = true
   ·subst c5
    have H1 : (some (0, 0, 0, some 1)) = some (r1, r2, r3, r4) := by rw [if_pos rfl] at H; exact H
    clear H; have H := H1; clear H1; simp only [Option.some.injEq, Prod.mk.injEq] at H; obtain ⟨rfl, rfl, rfl, rfl⟩ := H; have hcz6_0 : wc.cell? ⟨gb249, 0, none⟩ = some (.int .i64 0) := (blk_cell BK249.out 0).trans rfl; have hcz6_1 : wc.cell? ⟨gb249, 1, none⟩ = some (.int .i64 0) := (blk_cell BK249.out 1).trans rfl; have hcz6_2 : wc.cell? ⟨gb249, 2, none⟩ = some (.int .i64 0) := (blk_cell BK249.out 2).trans rfl; have hfz6_0 := blk_frozen BK249.out 0; have hfz6_1 := blk_frozen BK249.out 1; have hfz6_2 := blk_frozen BK249.out 2
    go_wp2
    refine bodyPost_ret (results_ct rfl _ _ gb249 50 #[.int .i64 0, .int .i64 0, .int .i64 0] (0, 0) _ rfl (by (with_reducible repeat first | apply blk_drewN | apply blk_drew | apply blk_alloc); refine blk_put (cs := #[.int .i64 0, .int .i64 0, .int .i64 0]) ?_ 2 _ rfl; (with_reducible repeat first | apply blk_drewN | apply blk_drew | apply blk_alloc); refine blk_put (cs := #[.int .i64 0, .int .i64 0, .int .i64 0]) ?_ 1 _ rfl; (with_reducible repeat first | apply blk_drewN | apply blk_drew | apply blk_alloc); refine blk_put (cs := #[.int .i64 0, .int .i64 0, .int .i64 0]) ?_ 0 _ rfl; (with_reducible repeat first | apply blk_drewN | apply blk_drew | apply blk_alloc); exact BK249.out) Tryz.underlying50 rfl (by kernel_rfl)) rfl ?_
    exact en_
   ·replace c5 := Bool.eq_false_iff.mpr c5; subst c5
    have H1 : (if a0 = 86400 then (some (23, 59, 60, none)) else (some (wrap64 (Int.tdiv a0 3600), Int.tmod (wrap64 (Int.tdiv a0 60)) 60, Int.tmod a0 60, none))) = some (r1, r2, r3, r4) := by rw [if_neg (show ¬ (false = true) by decide)] at H; exact H
    clear H; have H := H1; clear H1
    by_cases c7 : a0 = 86400
    ·rw [if_pos c7] at H; have c7b0 : (a0 == 86400) = true := beq_iff_eq.mpr c7; have c7b1 : (a0 != 86400) = false := bne_eq_false_iff_eq.mpr c7; clear c7; simp only [Option.some.injEq, Prod.mk.injEq] at H; obtain ⟨rfl, rfl, rfl, rfl⟩ := H; have hcz8_0 : wc.cell? ⟨gb249, 0, none⟩ = some (.int .i64 0) := (blk_cell BK249.out 0).trans rfl; have hcz8_1 : wc.cell? ⟨gb249, 1, none⟩ = some (.int .i64 0) := (blk_cell BK249.out 1).trans rfl; have hcz8_2 : wc.cell? ⟨gb249, 2, none⟩ = some (.int .i64 0) := (blk_cell BK249.out 2).trans rfl; have hfz8_0 := blk_frozen BK249.out 0; have hfz8_1 := blk_frozen BK249.out 1; have hfz8_2 := blk_frozen BK249.out 2
     go_wp2
     refine bodyPost_ret (results_ct rfl _ _ gb249 50 #[.int .i64 23, .int .i64 59, .int .i64 60] (0, 0) _ rfl (by (with_reducible repeat first | apply blk_drewN | apply blk_drew | apply blk_alloc); refine blk_put (cs := #[.int .i64 23, .int .i64 59, .int .i64 0]) ?_ 2 _ rfl; (with_reducible repeat first | apply blk_drewN | apply blk_drew | apply blk_alloc); refine blk_put (cs := #[.int .i64 23, .int .i64 0, .int .i64 0]) ?_ 1 _ rfl; (with_reducible repeat first | apply blk_drewN | apply blk_drew | apply blk_alloc); refine blk_put (cs := #[.int .i64 0, .int .i64 0, .int .i64 0]) ?_ 0 _ rfl; (with_reducible repeat first | apply blk_drewN | apply blk_drew | apply blk_alloc); exact BK249.out) Tryz.underlying50 rfl (by kernel_rfl)) rfl ?_
     exact en_
    ·rw [if_neg c7] at H; have c7b0 : (a0 == 86400) = false := beq_eq_false_iff_ne.mpr c7; have c7b1 : (a0 != 86400) = true := bne_iff_ne.mpr c7; simp only [Option.some.injEq, Prod.mk.injEq] at H; obtain ⟨rfl, rfl, rfl, rfl⟩ := H; have hcz9_0 : wc.cell? ⟨gb249, 0, none⟩ = some (.int .i64 0) := (blk_cell BK249.out 0).trans rfl; have hcz9_1 : wc.cell? ⟨gb249, 1, none⟩ = some (.int .i64 0) := (blk_cell BK249.out 1).trans rfl; have hcz9_2 : wc.cell? ⟨gb249, 2, none⟩ = some (.int .i64 0) := (blk_cell BK249.out 2).trans rfl; have hfz9_0 := blk_frozen BK249.out 0; have hfz9_1 := blk_frozen BK249.out 1; have hfz9_2 := blk_frozen BK249.out 2
     go_wp2
     refine bodyPost_ret (results_ct rfl _ _ gb249 50 #[.int .i64 (wrap64 (Int.tdiv a0 3600)), .int .i64 (Int.tmod (wrap64 (Int.tdiv a0 60)) 60), .int .i64 (Int.tmod a0 60)] (0, 0) _ rfl (by (with_reducible repeat first | apply blk_drewN | apply blk_drew | apply blk_alloc); refine blk_put (cs := #[.int .i64 (wrap64 (Int.tdiv a0 3600)), .int .i64 (Int.tmod (wrap64 (Int.tdiv a0 60)) 60), .int .i64 0]) ?_ 2 _ rfl; (with_reducible repeat first | apply blk_drewN | apply blk_drew | apply blk_alloc); refine blk_put (cs := #[.int .i64 (wrap64 (Int.tdiv a0 3600)), .int .i64 0, .int .i64 0]) ?_ 1 _ rfl; (with_reducible repeat first | apply blk_drewN | apply blk_drew | apply blk_alloc); refine blk_put (cs := #[.int .i64 0, .int .i64 0, .int .i64 0]) ?_ 0 _ rfl; (with_reducible repeat first | apply blk_drewN | apply blk_drew | apply blk_alloc); exact BK249.out) Tryz.underlying50 rfl (by kernel_rfl)) rfl ?_
     exact en_
end Go.Proofs.YtfjifhkgifefeaaGreatDoor.PA
end

section
namespace Go.Proofs.YtfjifhkgifefeaaGreatDoor.PA
open Giv Go.RowKit YtfjifhkgifefeaaGreatDoorW.PrintWords YtfjifhkgifefeaaGreatDoorW.PrintLast YtfjifhkgifefeaaGreatDoorW.PrintMore
attribute [local go_sem] max2_int min2_int max_two min_two max_three min_three max_four min_four
set_option linter.unusedVariables false
set_option linter.unusedSimpArgs false
def daytime_digits.f (a0 : Int) (a1 : Int) : Option (ByteArray) := (strconv_FormatInt.f a0 10).bind fun t251 => ((strings_Repeat.f (⟨#[48]⟩ : ByteArray) (mx 0 (wrap64 (a1 - (t251.size : Int))))).bind fun t252 => (if t252.size + t251.size ≤ 9223372036854775807 then (some (t252 ++ t251)) else (none)))
theorem daytime_digits.calls (a0 : Int) (a1 : Int) (r : ByteArray) (w : World) (hl_ : Laid w) (h : daytime_digits.f a0 a1 = some r) :
  Calls Tryz.prog 100 #[.int .i64 a0, .int .i64 a1] w fun e w' => e = .returned (.string r) ∧ Below w.heap.size w w' := by
 have HL := Aside0.mk hl_; clear hl_; have HB := Aside0.mk (Below.refl w.heap.size w); have H := h; clear h
 unfold daytime_digits.f at H
 replace H := Option.bind_eq_some_iff.mp H; obtain ⟨t251, A30, H⟩ := H; (try dsimp only at H); have A3 := Aside0.mk A30; clear A30
 obtain ⟨ji4, hji4⟩ : ∃ j_ : Int, (mx 0 (wrap64 (a1 - (t251.size : Int)))) = j_ := ⟨_, rfl⟩
 replace H : ((strings_Repeat.f (⟨#[48]⟩ : ByteArray) (ji4)).bind fun t252 => (if t252.size + t251.size ≤ 9223372036854775807 then (some (t252 ++ t251)) else (none))) = some r := by first | (rw [hji4] at H; exact H) | (simp only [hji4] at H ⊢; exact H)
 (try rw [hji4] at A3)
 (try (have hji4l : 0 ≤ ji4 := by (rw [← hji4]; unfold mx; (repeat' split) <;> omega)))
 (try (have hji4m : 0 ≤ ji4 := by omega))
 have hji4_ : (if 0 < (wrap64 (a1 - (t251.size : Int))) then (wrap64 (a1 - (t251.size : Int))) else 0) = ji4 := hji4; replace H := Option.bind_eq_some_iff.mp H; obtain ⟨t252, A50, H⟩ := H; (try dsimp only at H); have A5 := Aside0.mk A50; clear A50
 by_cases c6 : t252.size + t251.size ≤ 9223372036854775807
 ·rw [if_pos c6] at H; have c6b0 := eq_true c6; have c6b1 : decide (t252.size + t251.size ≤ 9223372036854775807) = true := decide_eq_true c6
  try have c6b2 : (9223372036854775807 < t252.size + t251.size) = False := eq_false (Nat.not_lt.2 c6)
  obtain rfl := Option.some.inj H
  go_enter Tryz.func100, Tryz.ntmps100
  go_wp2_with (first | ((with_reducible refine gate_callee (f := 114) rfl ?_); refine gd_ (some 7) Tryz.func114 (strconv_FormatInt.calls a0 10 t251 _ lb_ A3.out) ?_; intro w7 hb; replace HB := bs_ hb; (try clear hb)) | ((with_reducible refine gate_callee (f := 155) rfl ?_); refine goesL_ (some 13) rfl rfl Tryz.func155 (by kernel_rfl) rfl #[.string (⟨#[48]⟩ : ByteArray), .int .i64 ji4] rfl (by (try simp only [List.map_toArray, List.map_cons, List.map_nil]); first | done | (simp only [hji4]; rfl) | rfl | (simp only [List.length_drop, List.length_take]; rfl)) ?_; (with_reducible refine (strings_Repeat.calls (⟨#[48]⟩ : ByteArray) ji4 t252 _ A5.out).mono ?_); rintro e w8 ⟨rfl, hb⟩; refine ⟨_, rfl, ?_⟩; replace HB := bs_ hb; (try clear hb)))
  go_ret
  exact ⟨by first | rfl | (simp [errW_none, errW_some] <;> rfl) | (simp only [← hji4]; first | rfl | (simp [errW_none, errW_some] <;> rfl)) | (simp [*, errW_none, errW_some] <;> rfl), by repeat (first | (with_reducible first | exact HB.out | apply below_alloc | apply pw_below_drewN | apply below_drew1) | exact HB.out)⟩
 ·rw [if_neg c6] at H; exact absurd H (by simp)
end Go.Proofs.YtfjifhkgifefeaaGreatDoor.PA
end

section
namespace Go.Proofs.YtfjifhkgifefeaaGreatDoor.PA
open Giv Go.RowKit YtfjifhkgifefeaaGreatDoorW.PrintWords YtfjifhkgifefeaaGreatDoorW.PrintLast YtfjifhkgifefeaaGreatDoorW.PrintMore
attribute [local go_sem] max2_int min2_int max_two min_two max_three min_three max_four min_four
set_option linter.unusedVariables false
set_option linter.unusedSimpArgs false
def daytime_Stamp.j0 : Nat → Int → Int → Bool → Int → Int → Int → Option (ByteArray × Option Int)
 | 0, _, _, _, _, _, _ => none
 | k + 1, x0, x2, x26, x258000, x258001, x258002 => if x26 = true then (some ((⟨#[]⟩ : ByteArray), some 1)) else ((civil_Of.f k x0).bind fun bt259 => (if bt259.2.2.2.isNone = true then ((civil_Text.f k bt259.1 bt259.2.1 bt259.2.2.1).bind fun bt265 => (if bt265.2.isNone = true then (if bt265.1.size + 1 ≤ 9223372036854775807 then ((daytime_digits.f x258000 2).bind fun t268 => (if (bt265.1 ++ (⟨#[84]⟩ : ByteArray)).size + t268.size ≤ 9223372036854775807 then (if ((bt265.1 ++ (⟨#[84]⟩ : ByteArray)) ++ t268).size + 1 ≤ 9223372036854775807 then ((daytime_digits.f x258001 2).bind fun t269 => (if (((bt265.1 ++ (⟨#[84]⟩ : ByteArray)) ++ t268) ++ (⟨#[58]⟩ : ByteArray)).size + t269.size ≤ 9223372036854775807 then (if ((((bt265.1 ++ (⟨#[84]⟩ : ByteArray)) ++ t268) ++ (⟨#[58]⟩ : ByteArray)) ++ t269).size + 1 ≤ 9223372036854775807 then ((daytime_digits.f x258002 2).bind fun t270 => (if (((((bt265.1 ++ (⟨#[84]⟩ : ByteArray)) ++ t268) ++ (⟨#[58]⟩ : ByteArray)) ++ t269) ++ (⟨#[58]⟩ : ByteArray)).size + t270.size ≤ 9223372036854775807 then (if ((((((bt265.1 ++ (⟨#[84]⟩ : ByteArray)) ++ t268) ++ (⟨#[58]⟩ : ByteArray)) ++ t269) ++ (⟨#[58]⟩ : ByteArray)) ++ t270).size + 1 ≤ 9223372036854775807 then ((daytime_digits.f x2 9).bind fun t271 => (if (((((((bt265.1 ++ (⟨#[84]⟩ : ByteArray)) ++ t268) ++ (⟨#[58]⟩ : ByteArray)) ++ t269) ++ (⟨#[58]⟩ : ByteArray)) ++ t270) ++ (⟨#[46]⟩ : ByteArray)).size + t271.size ≤ 9223372036854775807 then (some ((((((((bt265.1 ++ (⟨#[84]⟩ : ByteArray)) ++ t268) ++ (⟨#[58]⟩ : ByteArray)) ++ t269) ++ (⟨#[58]⟩ : ByteArray)) ++ t270) ++ (⟨#[46]⟩ : ByteArray)) ++ t271, none)) else (none))) else (none)) else (none))) else (none)) else (none))) else (none)) else (none))) else (none)) else (some ((⟨#[]⟩ : ByteArray), some (bt265.2.getD 0))))) else (some ((⟨#[]⟩ : ByteArray), some (bt259.2.2.2.getD 0)))))
def daytime_Stamp.f (k : Nat) (a0 : Int) (a1 : Int) (a2 : Int) : Option (ByteArray × Option Int) := (daytime_Of.f k a1).bind fun bt253 => (if bt253.2.2.2.isNone = true then (if a2 < 0 then (daytime_Stamp.j0 k a0 a2 true bt253.1 bt253.2.1 bt253.2.2.1) else (daytime_Stamp.j0 k a0 a2 (decide (a2 ≥ 1000000000)) bt253.1 bt253.2.1 bt253.2.2.1)) else (daytime_Stamp.j0 k a0 a2 true bt253.1 bt253.2.1 bt253.2.2.1))
def daytime_Stamp.T10 : Bool × List (List Nat × List Nat) := (true, [([], []), ([0], [0]), ([], []), ([2], [2]), ([3], [3]), ([1, 4], [1, 4]), ([5], [5]), ([], []), ([7], [7]), ([8, 4], [8]), ([6, 9], [6, 9]), ([10], [10]), ([], []), ([12], [12]), ([13, 9], [13]), ([11, 14], [11, 14]), ([15], [15]), ([], []), ([17, 14], [17]), ([16, 18], [16, 18]), ([19, 18, 0, 1, 2, 3, 4, 5, 6, 7, 8, 9, 10, 11, 12, 13, 14, 15, 16, 17, 18, 19], [19]), ([20, 0, 1, 2, 3, 4, 5, 6, 7, 8, 9, 10, 11, 12, 13, 14, 15, 16, 17, 18, 19, 20], [])])
def daytime_Stamp.B10 : List Nat := [0, 1, 0, 4, 12, 31, 63, 0, 128, 412, 1023, 2047, 0, 4096, 13212, 32767, 65535, 0, 160668, 524287, 1048575, 2097151]
theorem daytime_Stamp.tab10 : rtab .any (opsOf Tryz.f39 10) = daytime_Stamp.T10 := by kernel_rfl
theorem daytime_Stamp.bits10 : waitsOk daytime_Stamp.T10.2 daytime_Stamp.B10 = true := by kernel_rfl
theorem daytime_Stamp.calls (k : Nat) (a0 : Int) (a1 : Int) (a2 : Int) (r1 : ByteArray) (r2 : Option Int) (w : World) (hl_ : Laid w) (h : daytime_Stamp.f k a0 a1 a2 = some (r1, r2)) :
  Calls Tryz.prog 39 #[.int .i64 a0, .int .i64 a1, .int .i64 a2] w fun e w' => e = .returned (.tuple #[.string r1, errW r2]) ∧ Below w.heap.size w w' := by
 have hu50 := Tryz.underlying50; have hu26 := Tryz.underlying26; have hu28 := Tryz.underlying28; have hu157 := Tryz.underlying157; have HL := Aside0.mk hl_; clear hl_; have HB := Aside0.mk (Below.refl w.heap.size w); have H := h; clear h
 unfold daytime_Stamp.f at H
 replace H := Option.bind_eq_some_iff.mp H; obtain ⟨⟨t253, t254, t255, t256⟩, A40, H⟩ := H; (try dsimp only at H); have A4 := Aside0.mk A40; clear A40; have HC5 := Aside0.mk H; clear H
 go_enter Tryz.func39, Tryz.ntmps39
 go_upto_region 2 with (first | ((with_reducible refine gate_callee (f := 33) rfl ?_); refine gd_ (some 14) Tryz.func33 (daytime_Of.calls k a1 t253 t254 t255 t256 _ A4.out) ?_; intro w6 hb; replace HB := bs_ hb; (try clear hb); (try simp only [errW_none, errW_some])) | ((with_reducible refine gate_dst (N := 8) rfl ?_); refine be_ (N := 8) (cs := #[.int .i64 0, .int .i64 0, .int .i64 0]) (t := 50) ?_; intro gb257 hg w7 hbox hb; have BK257 := Aside0.mk hbox; have GW257 := Aside0.mk (sz_ hg : w.heap.size ≤ gb257); have GE257 := GW257; replace HB := bs_ hb; clear hb hbox hg; have hcz8_0 : w7.cell? ⟨gb257, 0, none⟩ = some (.int .i64 0) := (blk_cell BK257.out 0).trans rfl; have hcz8_1 : w7.cell? ⟨gb257, 1, none⟩ = some (.int .i64 0) := (blk_cell BK257.out 1).trans rfl; have hcz8_2 : w7.cell? ⟨gb257, 2, none⟩ = some (.int .i64 0) := (blk_cell BK257.out 2).trans rfl; have hfz8_0 := blk_frozen BK257.out 0; have hfz8_1 := blk_frozen BK257.out 1; have hfz8_2 := blk_frozen BK257.out 2))
 (try simp only [Act.put, List.setIfInBounds_toArray, List.set_cons_zero, List.set_cons_succ])
 go_cut [26] (fun v26 wc => ∃ (kq : Nat) (x26_4 : Bool), v26 = .bool x26_4 ∧ Aside0 (daytime_Stamp.j0 kq a0 a2 x26_4 t253 t254 t255 = some (r1, r2)) ∧ Aside0 (kq ≤ k) ∧ Aside0 (wc.heap[gb257]? = some (.cells #[.int .i64 t253, .int .i64 t254, .int .i64 t255] 50 (0, 0))) ∧ Aside0 (Below w.heap.size w wc))
 case first =>
  have H := HC5.out; clear HC5
  rcases t256 with _ | q258
  ·rw [if_pos (show (none : Option Int).isNone = true by rfl)] at H
   try dsimp only [Option.getD_some] at H
   try simp only [errW_none, errW_some]
   by_cases c9 : a2 < 0
   ·rw [if_pos c9] at H; have c9b0 : decide (a2 < 0) = true := decide_eq_true c9; clear c9
    (first | rw [c9b0] | (simp only [i64_w, i32_w]; rw [c9b0]) | skip)
    have H' := Aside0.mk H; clear H
    go_wp2
    go_meet
    case rel => exact ⟨_, (true), rs_, H', ⟨by first | omega | exact Nat.le_refl _⟩, ⟨by (with_reducible repeat first | apply blk_drewN | apply blk_drew | apply blk_alloc); refine blk_put (cs := #[.int .i64 t253, .int .i64 t254, .int .i64 0]) ?_ 2 _ rfl; (with_reducible repeat first | apply blk_drewN | apply blk_drew | apply blk_alloc); refine blk_put (cs := #[.int .i64 t253, .int .i64 0, .int .i64 0]) ?_ 1 _ rfl; (with_reducible repeat first | apply blk_drewN | apply blk_drew | apply blk_alloc); refine blk_put (cs := #[.int .i64 0, .int .i64 0, .int .i64 0]) ?_ 0 _ rfl; (with_reducible repeat first | apply blk_drewN | apply blk_drew | apply blk_alloc); exact BK257.out⟩, ⟨bl_⟩⟩
   ·rw [if_neg c9] at H; have c9b0 : decide (a2 < 0) = false := decide_eq_false c9; clear c9
    (first | rw [c9b0] | (simp only [i64_w, i32_w]; rw [c9b0]) | skip)
    have H' := Aside0.mk H; clear H
    go_wp2
    go_meet
    case rel => exact ⟨_, (decide (a2 ≥ 1000000000)), rs_, H', ⟨by first | omega | exact Nat.le_refl _⟩, ⟨by (with_reducible repeat first | apply blk_drewN | apply blk_drew | apply blk_alloc); refine blk_put (cs := #[.int .i64 t253, .int .i64 t254, .int .i64 0]) ?_ 2 _ rfl; (with_reducible repeat first | apply blk_drewN | apply blk_drew | apply blk_alloc); refine blk_put (cs := #[.int .i64 t253, .int .i64 0, .int .i64 0]) ?_ 1 _ rfl; (with_reducible repeat first | apply blk_drewN | apply blk_drew | apply blk_alloc); refine blk_put (cs := #[.int .i64 0, .int .i64 0, .int .i64 0]) ?_ 0 _ rfl; (with_reducible repeat first | apply blk_drewN | apply blk_drew | apply blk_alloc); exact BK257.out⟩, ⟨bl_⟩⟩
  ·rw [if_neg (show ¬ (some q258).isNone = true by simp)] at H
   try dsimp only [Option.getD_some] at H
   try simp only [errW_none, errW_some]
   have H' := Aside0.mk H; clear H
   go_wp2
   go_meet
   case rel => exact ⟨_, (true), rs_, H', ⟨by first | omega | exact Nat.le_refl _⟩, ⟨by (with_reducible repeat first | apply blk_drewN | apply blk_drew | apply blk_alloc); refine blk_put (cs := #[.int .i64 t253, .int .i64 t254, .int .i64 0]) ?_ 2 _ rfl; (with_reducible repeat first | apply blk_drewN | apply blk_drew | apply blk_alloc); refine blk_put (cs := #[.int .i64 t253, .int .i64 0, .int .i64 0]) ?_ 1 _ rfl; (with_reducible repeat first | apply blk_drewN | apply blk_drew | apply blk_alloc); refine blk_put (cs := #[.int .i64 0, .int .i64 0, .int .i64 0]) ?_ 0 _ rfl; (with_reducible repeat first | apply blk_drewN | apply blk_drew | apply blk_alloc); exact BK257.out⟩, ⟨bl_⟩⟩
 case rest =>
  clear HC5; (try clear p2); (try clear q2); (try clear c3); (try clear c9); (try clear c9b0); (try clear hcz8_0); (try clear hcz8_1); (try clear hcz8_2); (try clear hfz8_0); (try clear hfz8_1); (try clear hfz8_2); (try clear q258); obtain ⟨kq, x26_4, rfl, HA, HJ4, BK257, HB⟩ := hcut
  cases kq with
  | zero => exact absurd HA.out (by simp [daytime_Stamp.j0])
  | succ kj4 =>
   have H := HA.out; clear HA; simp only [daytime_Stamp.j0] at H
   by_cases c10 : x26_4 = true
   ·subst c10
    have H1 : (some ((⟨#[]⟩ : ByteArray), some 1)) = some (r1, r2) := by rw [if_pos rfl] at H; exact H
    clear H; have H := H1; clear H1; simp only [Option.some.injEq, Prod.mk.injEq] at H; obtain ⟨rfl, rfl⟩ := H
    go_wp2
    go_ret2
    exact en_
   ·replace c10 := Bool.eq_false_iff.mpr c10; subst c10
    have H1 : ((civil_Of.f kj4 a0).bind fun bt259 => (if bt259.2.2.2.isNone = true then ((civil_Text.f kj4 bt259.1 bt259.2.1 bt259.2.2.1).bind fun bt265 => (if bt265.2.isNone = true then (if bt265.1.size + 1 ≤ 9223372036854775807 then ((daytime_digits.f t253 2).bind fun t268 => (if (bt265.1 ++ (⟨#[84]⟩ : ByteArray)).size + t268.size ≤ 9223372036854775807 then (if ((bt265.1 ++ (⟨#[84]⟩ : ByteArray)) ++ t268).size + 1 ≤ 9223372036854775807 then ((daytime_digits.f t254 2).bind fun t269 => (if (((bt265.1 ++ (⟨#[84]⟩ : ByteArray)) ++ t268) ++ (⟨#[58]⟩ : ByteArray)).size + t269.size ≤ 9223372036854775807 then (if ((((bt265.1 ++ (⟨#[84]⟩ : ByteArray)) ++ t268) ++ (⟨#[58]⟩ : ByteArray)) ++ t269).size + 1 ≤ 9223372036854775807 then ((daytime_digits.f t255 2).bind fun t270 => (if (((((bt265.1 ++ (⟨#[84]⟩ : ByteArray)) ++ t268) ++ (⟨#[58]⟩ : ByteArray)) ++ t269) ++ (⟨#[58]⟩ : ByteArray)).size + t270.size ≤ 9223372036854775807 then (if ((((((bt265.1 ++ (⟨#[84]⟩ : ByteArray)) ++ t268) ++ (⟨#[58]⟩ : ByteArray)) ++ t269) ++ (⟨#[58]⟩ : ByteArray)) ++ t270).size + 1 ≤ 9223372036854775807 then ((daytime_digits.f a2 9).bind fun t271 => (if (((((((bt265.1 ++ (⟨#[84]⟩ : ByteArray)) ++ t268) ++ (⟨#[58]⟩ : ByteArray)) ++ t269) ++ (⟨#[58]⟩ : ByteArray)) ++ t270) ++ (⟨#[46]⟩ : ByteArray)).size + t271.size ≤ 9223372036854775807 then (some ((((((((bt265.1 ++ (⟨#[84]⟩ : ByteArray)) ++ t268) ++ (⟨#[58]⟩ : ByteArray)) ++ t269) ++ (⟨#[58]⟩ : ByteArray)) ++ t270) ++ (⟨#[46]⟩ : ByteArray)) ++ t271, none)) else (none))) else (none)) else (none))) else (none)) else (none))) else (none)) else (none))) else (none)) else (some ((⟨#[]⟩ : ByteArray), some (bt265.2.getD 0))))) else (some ((⟨#[]⟩ : ByteArray), some (bt259.2.2.2.getD 0))))) = some (r1, r2) := by rw [if_neg (show ¬ (false = true) by decide)] at H; exact H
    clear H; have H := H1; clear H1; replace H := Option.bind_eq_some_iff.mp H; obtain ⟨⟨t259, t260, t261, t262⟩, A110, H⟩ := H; (try dsimp only at H); have A11 := Aside0.mk A110; clear A110
    rcases t262 with _ | q264
    ·rw [if_pos (show (none : Option Int).isNone = true by rfl)] at H
     try dsimp only [Option.getD_some] at H
     try simp only [errW_none, errW_some]
     replace H := Option.bind_eq_some_iff.mp H; obtain ⟨⟨t265, t266⟩, A120, H⟩ := H; (try dsimp only at H); have A12 := Aside0.mk A120; clear A120
     rcases t266 with _ | q267
     ·rw [if_pos (show (none : Option Int).isNone = true by rfl)] at H
      try dsimp only [Option.getD_some] at H
      try simp only [errW_none, errW_some]
      by_cases c13 : t265.size + 1 ≤ 9223372036854775807
      ·rw [if_pos c13] at H; have c13b0 := eq_true c13; have c13b1 : decide (t265.size + 1 ≤ 9223372036854775807) = true := decide_eq_true c13
       try have c13b2 : (9223372036854775807 < t265.size + 1) = False := eq_false (Nat.not_lt.2 c13)
       replace H := Option.bind_eq_some_iff.mp H; obtain ⟨t268, A140, H⟩ := H; (try dsimp only at H); have A14 := Aside0.mk A140; clear A140
       by_cases c15 : (t265 ++ (⟨#[84]⟩ : ByteArray)).size + t268.size ≤ 9223372036854775807
       ·rw [if_pos c15] at H; have c15b0 := eq_true c15; have c15b1 : decide ((t265 ++ (⟨#[84]⟩ : ByteArray)).size + t268.size ≤ 9223372036854775807) = true := decide_eq_true c15
        try have c15b2 : (9223372036854775807 < (t265 ++ (⟨#[84]⟩ : ByteArray)).size + t268.size) = False := eq_false (Nat.not_lt.2 c15)
        try have c15b3 : (9223372036854775807 < t265.size + 1 + t268.size) = False := eq_false (by have q_ := c15; simp only [ByteArray.size_append] at q_; exact Nat.not_lt.2 q_)
        by_cases c16 : ((t265 ++ (⟨#[84]⟩ : ByteArray)) ++ t268).size + 1 ≤ 9223372036854775807
        ·rw [if_pos c16] at H; have c16b0 := eq_true c16; have c16b1 : decide (((t265 ++ (⟨#[84]⟩ : ByteArray)) ++ t268).size + 1 ≤ 9223372036854775807) = true := decide_eq_true c16
         try have c16b2 : (9223372036854775807 < ((t265 ++ (⟨#[84]⟩ : ByteArray)) ++ t268).size + 1) = False := eq_false (Nat.not_lt.2 c16)
         try have c16b3 : (9223372036854775807 < t265.size + 1 + t268.size + 1) = False := eq_false (by have q_ := c16; simp only [ByteArray.size_append] at q_; exact Nat.not_lt.2 q_)
         replace H := Option.bind_eq_some_iff.mp H; obtain ⟨t269, A170, H⟩ := H; (try dsimp only at H); have A17 := Aside0.mk A170; clear A170
         by_cases c18 : (((t265 ++ (⟨#[84]⟩ : ByteArray)) ++ t268) ++ (⟨#[58]⟩ : ByteArray)).size + t269.size ≤ 9223372036854775807
         ·rw [if_pos c18] at H; have c18b0 := eq_true c18; have c18b1 : decide ((((t265 ++ (⟨#[84]⟩ : ByteArray)) ++ t268) ++ (⟨#[58]⟩ : ByteArray)).size + t269.size ≤ 9223372036854775807) = true := decide_eq_true c18
          try have c18b2 : (9223372036854775807 < (((t265 ++ (⟨#[84]⟩ : ByteArray)) ++ t268) ++ (⟨#[58]⟩ : ByteArray)).size + t269.size) = False := eq_false (Nat.not_lt.2 c18)
          try have c18b3 : (9223372036854775807 < t265.size + 1 + t268.size + 1 + t269.size) = False := eq_false (by have q_ := c18; simp only [ByteArray.size_append] at q_; exact Nat.not_lt.2 q_)
          by_cases c19 : ((((t265 ++ (⟨#[84]⟩ : ByteArray)) ++ t268) ++ (⟨#[58]⟩ : ByteArray)) ++ t269).size + 1 ≤ 9223372036854775807
          ·rw [if_pos c19] at H; have c19b0 := eq_true c19; have c19b1 : decide (((((t265 ++ (⟨#[84]⟩ : ByteArray)) ++ t268) ++ (⟨#[58]⟩ : ByteArray)) ++ t269).size + 1 ≤ 9223372036854775807) = true := decide_eq_true c19
           try have c19b2 : (9223372036854775807 < ((((t265 ++ (⟨#[84]⟩ : ByteArray)) ++ t268) ++ (⟨#[58]⟩ : ByteArray)) ++ t269).size + 1) = False := eq_false (Nat.not_lt.2 c19)
           try have c19b3 : (9223372036854775807 < t265.size + 1 + t268.size + 1 + t269.size + 1) = False := eq_false (by have q_ := c19; simp only [ByteArray.size_append] at q_; exact Nat.not_lt.2 q_)
           replace H := Option.bind_eq_some_iff.mp H; obtain ⟨t270, A200, H⟩ := H; (try dsimp only at H); have A20 := Aside0.mk A200; clear A200
           by_cases c21 : (((((t265 ++ (⟨#[84]⟩ : ByteArray)) ++ t268) ++ (⟨#[58]⟩ : ByteArray)) ++ t269) ++ (⟨#[58]⟩ : ByteArray)).size + t270.size ≤ 9223372036854775807
           ·rw [if_pos c21] at H; have c21b0 := eq_true c21; have c21b1 : decide ((((((t265 ++ (⟨#[84]⟩ : ByteArray)) ++ t268) ++ (⟨#[58]⟩ : ByteArray)) ++ t269) ++ (⟨#[58]⟩ : ByteArray)).size + t270.size ≤ 9223372036854775807) = true := decide_eq_true c21
            try have c21b2 : (9223372036854775807 < (((((t265 ++ (⟨#[84]⟩ : ByteArray)) ++ t268) ++ (⟨#[58]⟩ : ByteArray)) ++ t269) ++ (⟨#[58]⟩ : ByteArray)).size + t270.size) = False := eq_false (Nat.not_lt.2 c21)
            try have c21b3 : (9223372036854775807 < t265.size + 1 + t268.size + 1 + t269.size + 1 + t270.size) = False := eq_false (by have q_ := c21; simp only [ByteArray.size_append] at q_; exact Nat.not_lt.2 q_)
            by_cases c22 : ((((((t265 ++ (⟨#[84]⟩ : ByteArray)) ++ t268) ++ (⟨#[58]⟩ : ByteArray)) ++ t269) ++ (⟨#[58]⟩ : ByteArray)) ++ t270).size + 1 ≤ 9223372036854775807
            ·rw [if_pos c22] at H; have c22b0 := eq_true c22; have c22b1 : decide (((((((t265 ++ (⟨#[84]⟩ : ByteArray)) ++ t268) ++ (⟨#[58]⟩ : ByteArray)) ++ t269) ++ (⟨#[58]⟩ : ByteArray)) ++ t270).size + 1 ≤ 9223372036854775807) = true := decide_eq_true c22
             try have c22b2 : (9223372036854775807 < ((((((t265 ++ (⟨#[84]⟩ : ByteArray)) ++ t268) ++ (⟨#[58]⟩ : ByteArray)) ++ t269) ++ (⟨#[58]⟩ : ByteArray)) ++ t270).size + 1) = False := eq_false (Nat.not_lt.2 c22)
             try have c22b3 : (9223372036854775807 < t265.size + 1 + t268.size + 1 + t269.size + 1 + t270.size + 1) = False := eq_false (by have q_ := c22; simp only [ByteArray.size_append] at q_; exact Nat.not_lt.2 q_)
             replace H := Option.bind_eq_some_iff.mp H; obtain ⟨t271, A230, H⟩ := H; (try dsimp only at H); have A23 := Aside0.mk A230; clear A230
             by_cases c24 : (((((((t265 ++ (⟨#[84]⟩ : ByteArray)) ++ t268) ++ (⟨#[58]⟩ : ByteArray)) ++ t269) ++ (⟨#[58]⟩ : ByteArray)) ++ t270) ++ (⟨#[46]⟩ : ByteArray)).size + t271.size ≤ 9223372036854775807
             ·rw [if_pos c24] at H; have c24b0 := eq_true c24; have c24b1 : decide ((((((((t265 ++ (⟨#[84]⟩ : ByteArray)) ++ t268) ++ (⟨#[58]⟩ : ByteArray)) ++ t269) ++ (⟨#[58]⟩ : ByteArray)) ++ t270) ++ (⟨#[46]⟩ : ByteArray)).size + t271.size ≤ 9223372036854775807) = true := decide_eq_true c24
              try have c24b2 : (9223372036854775807 < (((((((t265 ++ (⟨#[84]⟩ : ByteArray)) ++ t268) ++ (⟨#[58]⟩ : ByteArray)) ++ t269) ++ (⟨#[58]⟩ : ByteArray)) ++ t270) ++ (⟨#[46]⟩ : ByteArray)).size + t271.size) = False := eq_false (Nat.not_lt.2 c24)
              try have c24b3 : (9223372036854775807 < t265.size + 1 + t268.size + 1 + t269.size + 1 + t270.size + 1 + t271.size) = False := eq_false (by have q_ := c24; simp only [ByteArray.size_append] at q_; exact Nat.not_lt.2 q_)
              simp only [Option.some.injEq, Prod.mk.injEq] at H; obtain ⟨rfl, rfl⟩ := H
              try go_wp2_with (first | ((with_reducible refine gate_callee (f := 17) rfl ?_); refine gd_ (some 30) Tryz.func17 (civil_Of.calls kj4 a0 t259 t260 t261 none _ A11.out) ?_; intro w25 hb; replace BK257 := bb_ BK257.out hb; replace HB := bs_ hb; (try clear hb); (try simp only [errW_none, errW_some])) | ((with_reducible refine gate_dst (N := 10) rfl ?_); refine be_ (N := 10) (cs := #[.int .i64 0, .int .i64 0, .int .i64 0]) (t := 26) ?_; intro gb263 hg w26 hbox hb; have BK263 := Aside0.mk hbox; have GW263 := Aside0.mk (sz_ hg : w.heap.size ≤ gb263); have GE263 := GW263; have NB257_263 := Aside0.mk ((by rw [hg]; exact Nat.ne_of_lt (blk_lt (g := gb257) (o := .cells #[.int .i64 t253, .int .i64 t254, .int .i64 t255] 50 (0, 0)) bk_) : gb257 ≠ gb263)); have NB263_257 := Aside0.mk ((by rw [hg]; exact Nat.ne_of_gt (blk_lt (g := gb257) (o := .cells #[.int .i64 t253, .int .i64 t254, .int .i64 t255] 50 (0, 0)) bk_) : gb263 ≠ gb257)); replace BK257 := bb_ BK257.out hb; replace HB := bs_ hb; clear hb hbox hg; have hnb27 := NB263_257.out; have hnc27 := NB257_263.out; have hcz28_0 : w26.cell? ⟨gb263, 0, none⟩ = some (.int .i64 0) := (blk_cell BK263.out 0).trans rfl; have hcz28_1 : w26.cell? ⟨gb263, 1, none⟩ = some (.int .i64 0) := (blk_cell BK263.out 1).trans rfl; have hcz28_2 : w26.cell? ⟨gb263, 2, none⟩ = some (.int .i64 0) := (blk_cell BK263.out 2).trans rfl; have hfz28_0 := blk_frozen BK263.out 0; have hfz28_1 := blk_frozen BK263.out 1; have hfz28_2 := blk_frozen BK263.out 2) | ((with_reducible refine gate_callee (f := 26) rfl ?_); refine gd_ (some 38) Tryz.func26 (civil_Text.calls kj4 t259 t260 t261 t265 none _ lb_ A12.out) ?_; intro w29 hb; replace BK257 := Aside0.mk (blk_below (g := gb257) (o := .cells #[.int .i64 t253, .int .i64 t254, .int .i64 t255] 50 (0, 0)) (by (with_reducible repeat first | apply blk_drewN | apply blk_drew | apply blk_alloc); refine blk_far ?_ NB257_263.out _; (with_reducible repeat first | apply blk_drewN | apply blk_drew | apply blk_alloc); refine blk_far ?_ NB257_263.out _; (with_reducible repeat first | apply blk_drewN | apply blk_drew | apply blk_alloc); refine blk_far ?_ NB257_263.out _; (with_reducible repeat first | apply blk_drewN | apply blk_drew | apply blk_alloc); exact BK257.out) hb); replace BK263 := Aside0.mk (blk_below (g := gb263) (o := .cells #[.int .i64 t259, .int .i64 t260, .int .i64 t261] 26 (0, 0)) (by (with_reducible repeat first | apply blk_drewN | apply blk_drew | apply blk_alloc); refine blk_put (cs := #[.int .i64 t259, .int .i64 t260, .int .i64 0]) ?_ 2 _ rfl; (with_reducible repeat first | apply blk_drewN | apply blk_drew | apply blk_alloc); refine blk_put (cs := #[.int .i64 t259, .int .i64 0, .int .i64 0]) ?_ 1 _ rfl; (with_reducible repeat first | apply blk_drewN | apply blk_drew | apply blk_alloc); refine blk_put (cs := #[.int .i64 0, .int .i64 0, .int .i64 0]) ?_ 0 _ rfl; (with_reducible repeat first | apply blk_drewN | apply blk_drew | apply blk_alloc); exact BK263.out) hb); replace HB := bs_ hb; (try clear hb); (try simp only [errW_none, errW_some])))
              have n0_ := Aside0.mk (blk_drew BK257.out); have n1_ := Aside0.mk (blk_drew BK263.out); have n2_ := Aside0.mk (below_drew1 HB.out); clear BK257; clear BK263; clear HB; have BK257 := n0_; have BK263 := n1_; have HB := n2_; clear n0_ n1_ n2_
              refine start_ (n := 22) (S := fun w' => w'.cell? ⟨gb257, 0, none⟩ = some (.int .i64 t253) ∧ w'.cell? ⟨gb257, 1, none⟩ = some (.int .i64 t254) ∧ w'.cell? ⟨gb257, 2, none⟩ = some (.int .i64 t255)) (ds := []) (bq 22 0) (by kernel_rfl) rfl (by kernel_rfl) ⟨(blk_cell BK257.out 0).trans rfl, (blk_cell BK257.out 1).trans rfl, (blk_cell BK257.out 2).trans rfl⟩ (fun hHeld => ?_); refine with_tabW daytime_Stamp.tab10 daytime_Stamp.bits10 (fun HT_ HW_ => ?_)
              generalize w29.drew = w30 at BK257 BK263 HB hHeld ⊢
              refine pa 0 (bq 22 1) (some 44) ?_; refine pa 1 (bq 22 2) (some 45) ?_; refine pa 2 (bq 22 3) (some 46) ?_; refine pa 7 (bs 22 135) (some 51) ?_; refine pa 12 (bs 22 4231) (some 56) ?_; refine pa 17 (bs 22 135303) (some 61) ?_
              refine tu (N := some 47) (v := ?_) (a' := ?_) 3 (bs 22 135311) hHeld rfl rfl (take_ofW HT_.out HW_.out (by kernel_rfl)) (fun _ _ _ h => h) (by rfl) ?_ ?_ ?_; rotate_left 2; (rintro w' ⟨s0, s1, s2⟩; go_simp; with_reducible rfl); (simp only [Act.put, List.setIfInBounds_toArray, List.set_cons_zero, List.set_cons_succ, i64_w, i32_w]; rfl)
              refine tu (N := some 52) (v := ?_) (a' := ?_) 8 (bs 22 135567) hHeld rfl rfl (take_ofW HT_.out HW_.out (by kernel_rfl)) (fun _ _ _ h => h) (by rfl) ?_ ?_ ?_; rotate_left 2; (rintro w' ⟨s0, s1, s2⟩; go_simp; with_reducible rfl); (simp only [Act.put, List.setIfInBounds_toArray, List.set_cons_zero, List.set_cons_succ, i64_w, i32_w]; rfl)
              refine tu (N := some 57) (v := ?_) (a' := ?_) 13 (bs 22 143759) hHeld rfl rfl (take_ofW HT_.out HW_.out (by kernel_rfl)) (fun _ _ _ h => h) (by rfl) ?_ ?_ ?_; rotate_left 2; (rintro w' ⟨s0, s1, s2⟩; go_simp; with_reducible rfl); (simp only [Act.put, List.setIfInBounds_toArray, List.set_cons_zero, List.set_cons_succ, i64_w, i32_w]; rfl)
              refine one_ (i := 4) (N := some 48) (bs 22 143775) rfl rfl (one_of HT_.out (by kernel_rfl)) (by decide) (fun K hK => ?_)
              refine goes_ Tryz.func100 (by kernel_rfl) rfl #[.int .i64 t253, .int .i64 2] (by rfl) rfl rfl ev_ ?_
              with_reducible refine (daytime_digits.calls t253 2 t268 _ lb_ A14.out).mono ?_
              rintro e w31 ⟨rfl, hb⟩
              refine ⟨_, rfl, ?_⟩
              have n0_ := Aside0.mk (blk_below (g := gb257) (o := .cells #[.int .i64 t253, .int .i64 t254, .int .i64 t255] 50 (0, 0)) bk_ hb); have n1_ := Aside0.mk (blk_below (g := gb263) (o := .cells #[.int .i64 t259, .int .i64 t260, .int .i64 t261] 26 (0, 0)) bk_ hb); have n2_ := bs_ hb; clear BK257; clear BK263; clear HB; have BK257 := n0_; have BK263 := n1_; have HB := n2_; clear n0_ n1_ n2_
              (try clear hb)
              (try clear hb2)
              (try clear hk)
              (try clear hi)
              refine hK.out _ _ ⟨(blk_cell BK257.out 0).trans rfl, (blk_cell BK257.out 1).trans rfl, (blk_cell BK257.out 2).trans rfl⟩ (fun hHeld => ?_)
              clear hK K
              refine norm_ (a' := ?_) ?_ ?_
              rotate_left
              ·show Act.put _ (some 48) _ = _
               simp only [Act.put, List.setIfInBounds_toArray, List.set_cons_zero, List.set_cons_succ, i64_w, i32_w]
               rfl
              refine pa 5 (bs 22 143807) (some 49) ?_; refine pa 6 (bs 22 143871) (some 50) ?_
              refine one_ (i := 9) (N := some 53) (bs 22 144383) rfl rfl (one_of HT_.out (by kernel_rfl)) (by decide) (fun K hK => ?_)
              refine goes_ Tryz.func100 (by kernel_rfl) rfl #[.int .i64 t254, .int .i64 2] (by rfl) rfl rfl ev_ ?_
              with_reducible refine (daytime_digits.calls t254 2 t269 _ lb_ A17.out).mono ?_
              rintro e w32 ⟨rfl, hb⟩
              refine ⟨_, rfl, ?_⟩
              have n0_ := Aside0.mk (blk_below (g := gb257) (o := .cells #[.int .i64 t253, .int .i64 t254, .int .i64 t255] 50 (0, 0)) bk_ hb); have n1_ := Aside0.mk (blk_below (g := gb263) (o := .cells #[.int .i64 t259, .int .i64 t260, .int .i64 t261] 26 (0, 0)) bk_ hb); have n2_ := bs_ hb; clear BK257; clear BK263; clear HB; have BK257 := n0_; have BK263 := n1_; have HB := n2_; clear n0_ n1_ n2_
              (try clear hb)
              (try clear hb2)
              (try clear hk)
              (try clear hi)
              refine hK.out _ _ ⟨(blk_cell BK257.out 0).trans rfl, (blk_cell BK257.out 1).trans rfl, (blk_cell BK257.out 2).trans rfl⟩ (fun hHeld => ?_)
              clear hK K
              refine norm_ (a' := ?_) ?_ ?_
              rotate_left
              ·show Act.put _ (some 53) _ = _
               simp only [Act.put, List.setIfInBounds_toArray, List.set_cons_zero, List.set_cons_succ, i64_w, i32_w]
               rfl
              refine pa 10 (bs 22 145407) (some 54) ?_; refine pa 11 (bs 22 147455) (some 55) ?_
              refine one_ (i := 14) (N := some 58) (bs 22 163839) rfl rfl (one_of HT_.out (by kernel_rfl)) (by decide) (fun K hK => ?_)
              refine goes_ Tryz.func100 (by kernel_rfl) rfl #[.int .i64 t255, .int .i64 2] (by rfl) rfl rfl ev_ ?_
              with_reducible refine (daytime_digits.calls t255 2 t270 _ lb_ A20.out).mono ?_
              rintro e w33 ⟨rfl, hb⟩
              refine ⟨_, rfl, ?_⟩
              have n0_ := Aside0.mk (blk_below (g := gb257) (o := .cells #[.int .i64 t253, .int .i64 t254, .int .i64 t255] 50 (0, 0)) bk_ hb); have n1_ := Aside0.mk (blk_below (g := gb263) (o := .cells #[.int .i64 t259, .int .i64 t260, .int .i64 t261] 26 (0, 0)) bk_ hb); have n2_ := bs_ hb; clear BK257; clear BK263; clear HB; have BK257 := n0_; have BK263 := n1_; have HB := n2_; clear n0_ n1_ n2_
              (try clear hb)
              (try clear hb2)
              (try clear hk)
              (try clear hi)
              refine hK.out _ _ ⟨(blk_cell BK257.out 0).trans rfl, (blk_cell BK257.out 1).trans rfl, (blk_cell BK257.out 2).trans rfl⟩ (fun hHeld => ?_)
              clear hK K
              refine norm_ (a' := ?_) ?_ ?_
              rotate_left
              ·show Act.put _ (some 58) _ = _
               simp only [Act.put, List.setIfInBounds_toArray, List.set_cons_zero, List.set_cons_succ, i64_w, i32_w]
               rfl
              refine pa 15 (bs 22 196607) (some 59) ?_; refine pa 16 (bq 22 18) (some 60) ?_
              refine one_ (i := 18) (N := some 62) (bq 22 19) rfl rfl (one_of HT_.out (by kernel_rfl)) (by decide) (fun K hK => ?_)
              refine goes_ Tryz.func100 (by kernel_rfl) rfl #[.int .i64 a2, .int .i64 9] (by rfl) rfl rfl ev_ ?_
              with_reducible refine (daytime_digits.calls a2 9 t271 _ lb_ A23.out).mono ?_
              rintro e w34 ⟨rfl, hb⟩
              refine ⟨_, rfl, ?_⟩
              have n0_ := Aside0.mk (blk_below (g := gb257) (o := .cells #[.int .i64 t253, .int .i64 t254, .int .i64 t255] 50 (0, 0)) bk_ hb); have n1_ := Aside0.mk (blk_below (g := gb263) (o := .cells #[.int .i64 t259, .int .i64 t260, .int .i64 t261] 26 (0, 0)) bk_ hb); have n2_ := bs_ hb; clear BK257; clear BK263; clear HB; have BK257 := n0_; have BK263 := n1_; have HB := n2_; clear n0_ n1_ n2_
              (try clear hb)
              (try clear hb2)
              (try clear hk)
              (try clear hi)
              refine hK.out _ _ ⟨(blk_cell BK257.out 0).trans rfl, (blk_cell BK257.out 1).trans rfl, (blk_cell BK257.out 2).trans rfl⟩ (fun hHeld => ?_)
              clear hK K
              refine norm_ (a' := ?_) ?_ ?_
              rotate_left
              ·show Act.put _ (some 62) _ = _
               simp only [Act.put, List.setIfInBounds_toArray, List.set_cons_zero, List.set_cons_succ, i64_w, i32_w]
               rfl
              refine pa 19 (bq 22 20) (some 63) ?_; refine pa 20 (bq 22 21) (some 6) ?_; refine pa 21 (bq 22 22) (some 7) ?_
              refine done_ (done_of HT_.out (by kernel_rfl)) ?_
              try go_wp2
              go_ret2
              exact en_
             ·rw [if_neg c24] at H; exact absurd H (by simp)
            ·rw [if_neg c22] at H; exact absurd H (by simp)
           ·rw [if_neg c21] at H; exact absurd H (by simp)
          ·rw [if_neg c19] at H; exact absurd H (by simp)
         ·rw [if_neg c18] at H; exact absurd H (by simp)
        ·rw [if_neg c16] at H; exact absurd H (by simp)
       ·rw [if_neg c15] at H; exact absurd H (by simp)
      ·rw [if_neg c13] at H; exact absurd H (by simp)
     ·rw [if_neg (show ¬ (some q267).isNone = true by simp)] at H
      try dsimp only [Option.getD_some] at H
      try simp only [errW_none, errW_some]
      simp only [Option.some.injEq, Prod.mk.injEq] at H; obtain ⟨rfl, rfl⟩ := H
      go_wp2_with (first | ((with_reducible refine gate_callee (f := 17) rfl ?_); refine gd_ (some 30) Tryz.func17 (civil_Of.calls kj4 a0 t259 t260 t261 none _ A11.out) ?_; intro w35 hb; replace BK257 := bb_ BK257.out hb; replace HB := bs_ hb; (try clear hb); (try simp only [errW_none, errW_some])) | ((with_reducible refine gate_dst (N := 10) rfl ?_); refine be_ (N := 10) (cs := #[.int .i64 0, .int .i64 0, .int .i64 0]) (t := 26) ?_; intro gb263 hg w36 hbox hb; have BK263 := Aside0.mk hbox; have GW263 := Aside0.mk (sz_ hg : w.heap.size ≤ gb263); have GE263 := GW263; have NB257_263 := Aside0.mk ((by rw [hg]; exact Nat.ne_of_lt (blk_lt (g := gb257) (o := .cells #[.int .i64 t253, .int .i64 t254, .int .i64 t255] 50 (0, 0)) bk_) : gb257 ≠ gb263)); have NB263_257 := Aside0.mk ((by rw [hg]; exact Nat.ne_of_gt (blk_lt (g := gb257) (o := .cells #[.int .i64 t253, .int .i64 t254, .int .i64 t255] 50 (0, 0)) bk_) : gb263 ≠ gb257)); replace BK257 := bb_ BK257.out hb; replace HB := bs_ hb; clear hb hbox hg; have hnb37 := NB263_257.out; have hnc37 := NB257_263.out; have hcz38_0 : w36.cell? ⟨gb263, 0, none⟩ = some (.int .i64 0) := (blk_cell BK263.out 0).trans rfl; have hcz38_1 : w36.cell? ⟨gb263, 1, none⟩ = some (.int .i64 0) := (blk_cell BK263.out 1).trans rfl; have hcz38_2 : w36.cell? ⟨gb263, 2, none⟩ = some (.int .i64 0) := (blk_cell BK263.out 2).trans rfl; have hfz38_0 := blk_frozen BK263.out 0; have hfz38_1 := blk_frozen BK263.out 1; have hfz38_2 := blk_frozen BK263.out 2) | ((with_reducible refine gate_callee (f := 26) rfl ?_); refine gd_ (some 38) Tryz.func26 (civil_Text.calls kj4 t259 t260 t261 t265 (some q267) _ lb_ A12.out) ?_; intro w39 hb; replace BK257 := Aside0.mk (blk_below (g := gb257) (o := .cells #[.int .i64 t253, .int .i64 t254, .int .i64 t255] 50 (0, 0)) (by (with_reducible repeat first | apply blk_drewN | apply blk_drew | apply blk_alloc); refine blk_far ?_ NB257_263.out _; (with_reducible repeat first | apply blk_drewN | apply blk_drew | apply blk_alloc); refine blk_far ?_ NB257_263.out _; (with_reducible repeat first | apply blk_drewN | apply blk_drew | apply blk_alloc); refine blk_far ?_ NB257_263.out _; (with_reducible repeat first | apply blk_drewN | apply blk_drew | apply blk_alloc); exact BK257.out) hb); replace BK263 := Aside0.mk (blk_below (g := gb263) (o := .cells #[.int .i64 t259, .int .i64 t260, .int .i64 t261] 26 (0, 0)) (by (with_reducible repeat first | apply blk_drewN | apply blk_drew | apply blk_alloc); refine blk_put (cs := #[.int .i64 t259, .int .i64 t260, .int .i64 0]) ?_ 2 _ rfl; (with_reducible repeat first | apply blk_drewN | apply blk_drew | apply blk_alloc); refine blk_put (cs := #[.int .i64 t259, .int .i64 0, .int .i64 0]) ?_ 1 _ rfl; (with_reducible repeat first | apply blk_drewN | apply blk_drew | apply blk_alloc); refine blk_put (cs := #[.int .i64 0, .int .i64 0, .int .i64 0]) ?_ 0 _ rfl; (with_reducible repeat first | apply blk_drewN | apply blk_drew | apply blk_alloc); exact BK263.out) hb); replace HB := bs_ hb; (try clear hb); (try simp only [errW_none, errW_some])))
      go_ret2
      exact en_
    ·rw [if_neg (show ¬ (some q264).isNone = true by simp)] at H
     try dsimp only [Option.getD_some] at H
     try simp only [errW_none, errW_some]
     simp only [Option.some.injEq, Prod.mk.injEq] at H; obtain ⟨rfl, rfl⟩ := H
     go_wp2_with (first | ((with_reducible refine gate_callee (f := 17) rfl ?_); refine gd_ (some 30) Tryz.func17 (civil_Of.calls kj4 a0 t259 t260 t261 (some q264) _ A11.out) ?_; intro w40 hb; replace BK257 := bb_ BK257.out hb; replace HB := bs_ hb; (try clear hb); (try simp only [errW_none, errW_some])) | ((with_reducible refine gate_dst (N := 10) rfl ?_); refine be_ (N := 10) (cs := #[.int .i64 0, .int .i64 0, .int .i64 0]) (t := 26) ?_; intro gb263 hg w41 hbox hb; have BK263 := Aside0.mk hbox; have GW263 := Aside0.mk (sz_ hg : w.heap.size ≤ gb263); have GE263 := GW263; have NB257_263 := Aside0.mk ((by rw [hg]; exact Nat.ne_of_lt (blk_lt (g := gb257) (o := .cells #[.int .i64 t253, .int .i64 t254, .int .i64 t255] 50 (0, 0)) bk_) : gb257 ≠ gb263)); have NB263_257 := Aside0.mk ((by rw [hg]; exact Nat.ne_of_gt (blk_lt (g := gb257) (o := .cells #[.int .i64 t253, .int .i64 t254, .int .i64 t255] 50 (0, 0)) bk_) : gb263 ≠ gb257)); replace BK257 := bb_ BK257.out hb; replace HB := bs_ hb; clear hb hbox hg; have hnb42 := NB263_257.out; have hnc42 := NB257_263.out; have hcz43_0 : w41.cell? ⟨gb263, 0, none⟩ = some (.int .i64 0) := (blk_cell BK263.out 0).trans rfl; have hcz43_1 : w41.cell? ⟨gb263, 1, none⟩ = some (.int .i64 0) := (blk_cell BK263.out 1).trans rfl; have hcz43_2 : w41.cell? ⟨gb263, 2, none⟩ = some (.int .i64 0) := (blk_cell BK263.out 2).trans rfl; have hfz43_0 := blk_frozen BK263.out 0; have hfz43_1 := blk_frozen BK263.out 1; have hfz43_2 := blk_frozen BK263.out 2))
     go_ret2
     exact en_
end Go.Proofs.YtfjifhkgifefeaaGreatDoor.PA
end

section
/- daytime.number by its contract: the number of a text, -1 where it is none. Its text is walked; strconv.ParseInt by its contracts. -/
namespace Go.Proofs.YtfjifhkgifefeaaGreatDoor.Giv
open Go.RowKit Go.Proofs.YtfjifhkgifefeaaGreatDoor Go.Proofs.YtfjifhkgifefeaaGreatDoorW.PrintWords
theorem pint_ok (p : ByteArray) (hp : p.size ≤ 281474976710656) (v : Int) (h : Lib.atoiAll p.data.toList = .ok v) (w : World) :
    Calls Tryz.prog 113 #[.string p, .int .i64 10, .int .i64 64] w fun e w' => e = .returned (.tuple #[.int .i64 v, .nilIface]) ∧ Below w.heap.size w w' := by
  refine (Tryz.strconv_ParseInt_10_at64_ok p (by omega) v (by rw [Lib.parseIntB_64]; exact h) w).mono ?_
  rintro e w' ⟨rfl, rfl | ⟨t, rfl⟩⟩
  · exact ⟨rfl, Below.refl _ _⟩
  · exact ⟨rfl, Lib.bytesWorld_below _ _ _⟩
theorem pint_bad (p : ByteArray) (hp : p.size ≤ 281474976710656) (h : ∀ v, Lib.atoiAll p.data.toList ≠ .ok v) (w : World) (hl : Laid w) :
    Calls Tryz.prog 113 #[.string p, .int .i64 10, .int .i64 64] w fun e w' => ∃ u N, e = .returned (.tuple #[.int .i64 u, .iface 276 (.pointer (some ⟨N, 0, none⟩))]) ∧ Below w.heap.size w w' := by
  rcases hc : Lib.atoiAll p.data.toList with v | _ | _
  · exact absurd hc (h v)
  · obtain ⟨tp, q, e⟩ := hl.syn
    refine (Any.strconv_ParseInt_10_at64_syntax Tryz.laysC174 p hp (by rw [Lib.parseIntB_64]; exact hc) _ w e (.inr ⟨_, _, rfl⟩)).mono ?_
    rintro e w' ⟨N, rfl, -, -, hb⟩
    exact ⟨_, N, rfl, hb⟩
  · obtain ⟨tp, q, e⟩ := hl.rng
    refine (Tryz.strconv_ParseInt_10_at64_range p hp (by rw [Lib.parseIntB_64]; exact hc) _ w e (.inr ⟨_, _, rfl⟩)).mono ?_
    rintro e w' ⟨N, rfl, -, -, hb⟩
    exact ⟨_, N, rfl, hb⟩
def numberOf (l : List UInt8) : Int := match Lib.atoiAll l with | .ok v => v | _ => -1
def daytime_number.f (a0 : ByteArray) : Option Int := if a0.size ≤ 281474976710656 then some (numberOf a0.data.toList) else none
theorem daytime_number.calls (a0 : ByteArray) (r : Int) (w : World) (hl_ : Laid w) (h : daytime_number.f a0 = some r) :
    Calls Tryz.prog 101 #[.string a0] w fun e w' => e = .returned (.int .i64 r) ∧ Below w.heap.size w w' := by
  unfold daytime_number.f at h
  split at h
  rotate_left
  · cases h
  rename_i hs
  have hr := Option.some.inj h; clear h
  unfold numberOf at hr
  by_cases c : ∃ v, Lib.atoiAll a0.data.toList = .ok v
  · obtain ⟨v, hv⟩ := c; rw [hv] at hr; have hr2 : v = r := hr; subst hr2; have H := Lib.hid hv; clear hv hr
    go_enter Tryz.func101, Tryz.ntmps101
    go_wp2_with (go_at_call 113; (refine (pint_ok a0 hs v H.out _).mono ?_); rintro e w1 ⟨rfl, hb⟩)
    go_ret
    exact ⟨rfl, hb⟩
  · have hr2 : -1 = r := by
      revert hr
      rcases hc : Lib.atoiAll a0.data.toList with v | _ | _
      · exact absurd ⟨v, hc⟩ c
      · exact fun e => e
      · exact fun e => e
    subst hr2; have H : Hid (∀ v, Lib.atoiAll a0.data.toList ≠ .ok v) := Lib.hid (fun v e => c ⟨v, e⟩); have HL := Aside0.mk hl_; clear hr hl_ c
    go_enter Tryz.func101, Tryz.ntmps101
    go_wp2_with (go_at_call 113; (refine (pint_bad a0 hs H.out _ HL.out).mono ?_); rintro e w1 ⟨u, N, rfl, hb⟩)
    go_ret
    exact ⟨rfl, hb⟩
end Go.Proofs.YtfjifhkgifefeaaGreatDoor.Giv
end

section
/- civil.Parse by its contract: the date of a text, or the error 3. Its text is walked; strings.Split and strconv.Atoi by their contracts. -/
namespace Go.Proofs.YtfjifhkgifefeaaGreatDoor.Giv
open Go.RowKit Go.Proofs.YtfjifhkgifefeaaGreatDoor StrM CivM PA YtfjifhkgifefeaaGreatDoorW.PrintWords
theorem atoi_ok (p : ByteArray) (hp : p.size ≤ 4294967280) (v : Int) (h : Lib.atoiAll p.data.toList = .ok v) (w : World) :
    Calls Tryz.prog 97 #[.string p] w fun e w' => e = .returned (.tuple #[.int .i64 v, .nilIface]) ∧ Below w.heap.size w w' := by
  refine (Tryz.strconv_Atoi_ok p (by omega) v h w).mono ?_
  rintro e w' ⟨rfl, rfl | ⟨t, rfl⟩⟩
  · exact ⟨rfl, Below.refl _ _⟩
  · exact ⟨rfl, Lib.bytesWorld_below _ _ _⟩
theorem atoi_bad (p : ByteArray) (hp : p.size ≤ 4294967280) (h : ∀ v, Lib.atoiAll p.data.toList ≠ .ok v) (w : World) (hl : Laid w) :
    Calls Tryz.prog 97 #[.string p] w fun e w' => ∃ u N, e = .returned (.tuple #[.int .i64 u, .iface 276 (.pointer (some ⟨N, 0, none⟩))]) ∧ Below w.heap.size w w' := by
  rcases hc : Lib.atoiAll p.data.toList with v | _ | _
  · exact absurd hc (h v)
  · obtain ⟨tp, q, e⟩ := hl.syn
    refine (Any.strconv_Atoi_syntax Tryz.laysC172 p (by omega) hc _ w e (.inr ⟨_, _, rfl⟩)).mono ?_
    rintro e w' ⟨N, rfl, -, -, hb⟩
    exact ⟨_, N, rfl, hb⟩
  · obtain ⟨tp, q, e⟩ := hl.rng
    refine (Tryz.strconv_Atoi_range p (by omega) hc _ w e (.inr ⟨_, _, rfl⟩)).mono ?_
    rintro e w' ⟨N, rfl, -, -, hb⟩
    exact ⟨_, N, rfl, hb⟩
/-- strings.Split at a byte: the new row, under a letter of its own. -/
theorem split_at (s : ByteArray) (hs : s.size < 4294967281) (l : List ByteArray) (h : Lib.splitB ⟨#[45]⟩ 0 (Lib.countB s ⟨#[45]⟩) s = l) (w : World) (hl : Laid w) :
    Calls Tryz.prog 96 #[.string s, .string ⟨#[45]⟩] w fun e w' => ∃ g, e = .returned (.slice (some ⟨g, 0, none⟩) l.length l.length) ∧ w.heap.size ≤ g ∧ w'.heap[g]? = some (.cells (l.map Value.string).toArray 9 (0, 0)) ∧ Below w.heap.size w w' := by
  refine (Tryz.strings_Split_shaped s ⟨#[45]⟩ w hl.shaped hs (by simp [ByteArray.size])).mono ?_
  rintro e w' ⟨rfl, rfl⟩
  have hc := Lib.splitB_all ⟨#[45]⟩ (by simp [ByteArray.size]) 0 _ s rfl; rw [h] at hc; rw [h, ← hc]
  exact ⟨w.heap.size, rfl, Nat.le_refl _, blk_new _ _, (Below.refl _ _).alloc (Nat.le_refl _) _⟩
def civil_Parse.f (a0 : ByteArray) : Option (Int × Int × Int × Option Int) :=
  if a0.size < 4294967281 then some (match dateOf a0.data.toList with | some (y, m, d) => (y, m, d, none) | none => (0, 0, 0, some 3)) else none
def Parsed (B : Nat) (w : World) (y m d : Int) (r : Option Int) (e : Ending) (w' : World) : Prop :=
  e = .returned (.tuple #[.agg #[.int .i64 y, .int .i64 m, .int .i64 d], errW r]) ∧ Below B w w'
theorem split_3 (s : ByteArray) (hs : s.size < 4294967281) (p0 p1 p2 : ByteArray) (h : Lib.splitB ⟨#[45]⟩ 0 (Lib.countB s ⟨#[45]⟩) s = [p0, p1, p2]) (w : World) (hl : Laid w) :
    Calls Tryz.prog 96 #[.string s, .string ⟨#[45]⟩] w fun e w' => ∃ g, e = .returned (.slice (some ⟨g, 0, none⟩) 3 3) ∧ w.heap.size ≤ g ∧ w'.heap[g]? = some (.cells #[.string p0, .string p1, .string p2] 9 (0, 0)) ∧ Below w.heap.size w w' :=
  split_at s hs [p0, p1, p2] h w hl
theorem parse_len (s : ByteArray) (w : World) (hl : Laid w) (hs : s.size < 4294967281) (l : List ByteArray) (h : Lib.splitB ⟨#[45]⟩ 0 (Lib.countB s ⟨#[45]⟩) s = l) (hn : ((l.length : Int) == 3) = false) :
    Calls Tryz.prog 27 #[.string s] w (Parsed w.heap.size w 0 0 0 (some 3)) := by
  have hn2 : ((l.length : Int) != 3) = true := by simp [bne, hn]
  have H := Lib.hid h; clear h; have HB := Aside0.mk (Below.refl w.heap.size w); have HL := Aside0.mk hl; clear hl
  go_enter Tryz.func27, Tryz.ntmps27
  go_wp2_with (go_at_call 96; (refine (split_at s hs l H.out _ (Laid.below HL.out bl_)).mono ?_); rintro e w1 ⟨g, rfl, hg, hc, hb⟩; have BK := Aside0.mk (blk_below (blk_new w _) hb); replace HB := Aside0.mk (below_step (below_alloc HB.out _) hb); clear hb hc hg; have z0 : w1.cell? ⟨w.heap.size, 0, none⟩ = some (.int .i64 0) := (blk_cell BK.out 0).trans rfl; have z1 : w1.cell? ⟨w.heap.size, 1, none⟩ = some (.int .i64 0) := (blk_cell BK.out 1).trans rfl; have z2 : w1.cell? ⟨w.heap.size, 2, none⟩ = some (.int .i64 0) := (blk_cell BK.out 2).trans rfl; have f0 := blk_frozen BK.out 0; have f1 := blk_frozen BK.out 1; have f2 := blk_frozen BK.out 2)
  refine bodyPost_ret (results_ct rfl _ _ w.heap.size 26 #[.int .i64 0, .int .i64 0, .int .i64 0] (0, 0) _ rfl (by refine blk_put (cs := #[.int .i64 0, .int .i64 0, .int .i64 0]) ?_ 2 _ rfl; refine blk_put (cs := #[.int .i64 0, .int .i64 0, .int .i64 0]) ?_ 1 _ rfl; refine blk_put (cs := #[.int .i64 0, .int .i64 0, .int .i64 0]) ?_ 0 _ rfl; exact BK.out) Tryz.underlying26 rfl (by kernel_rfl)) rfl ?_
  exact ⟨rfl, by repeat (first | exact HB.out | refine below_set ?_ (Nat.le_refl _))⟩
theorem parse_bad0 (s : ByteArray) (w : World) (hl : Laid w) (hs : s.size < 4294967281) (p0 p1 p2 : ByteArray) (h : Lib.splitB ⟨#[45]⟩ 0 (Lib.countB s ⟨#[45]⟩) s = [p0, p1, p2]) (h0s : p0.size ≤ 4294967280) (h1s : p1.size ≤ 4294967280) (h2s : p2.size ≤ 4294967280) (h0 : ∀ v, Lib.atoiAll p0.data.toList ≠ .ok v) :
    Calls Tryz.prog 27 #[.string s] w (Parsed w.heap.size w 0 0 0 (some 3)) := by
  have H := Lib.hid h; clear h; have n_ := Lib.hid h0; clear h0; have h0 := n_; clear n_; have HB := Aside0.mk (Below.refl w.heap.size w); have HL := Aside0.mk hl; clear hl
  go_enter Tryz.func27, Tryz.ntmps27
  go_wp2_with (first | (go_at_call 96; (refine (split_3 s hs p0 p1 p2 H.out _ (Laid.below HL.out bl_)).mono ?_); rintro e w1 ⟨g, rfl, hg, hc, hb⟩; have BG := Aside0.mk hc; have BK := Aside0.mk (blk_below (blk_new w _) hb); replace HB := Aside0.mk (below_step (below_alloc HB.out _) hb); clear hb hc hg; have z0 : w1.cell? ⟨w.heap.size, 0, none⟩ = some (.int .i64 0) := (blk_cell BK.out 0).trans rfl; have z1 : w1.cell? ⟨w.heap.size, 1, none⟩ = some (.int .i64 0) := (blk_cell BK.out 1).trans rfl; have z2 : w1.cell? ⟨w.heap.size, 2, none⟩ = some (.int .i64 0) := (blk_cell BK.out 2).trans rfl; have f0 := blk_frozen BK.out 0; have f1 := blk_frozen BK.out 1; have f2 := blk_frozen BK.out 2) | ((with_reducible refine gate_dst (N := 5) rfl ?_); refine be_ (N := 5) (cs := #[.int .i64 0, .int .i64 0, .int .i64 0]) (t := 164) ?_; intro ga hga w2 hbox hb2; have GA := Aside0.mk (show w.heap.size ≤ ga by rw [hga]; exact below_size HB.out); have n0_ := Aside0.mk (below_step HB.out hb2); have n1_ := Aside0.mk (blk_below BK.out hb2); have n2_ := Aside0.mk (blk_below BG.out hb2); have BA := Aside0.mk hbox; clear HB BK BG z0 z1 z2 f0 f1 f2; have HB := n0_; have BK := n1_; have BG := n2_; clear n0_ n1_ n2_; clear hb2 hbox hga; have NKA := Aside0.mk (blk_ne BK.out BA.out (by decide)); have NGA := Aside0.mk (blk_ne BG.out BA.out (by decide)); have y0 : w2.cell? ⟨g, 0, none⟩ = some (.string p0) := (blk_cell BG.out 0).trans rfl; have y1 : w2.cell? ⟨g, 1, none⟩ = some (.string p1) := (blk_cell BG.out 1).trans rfl; have y2 : w2.cell? ⟨g, 2, none⟩ = some (.string p2) := (blk_cell BG.out 2).trans rfl; have x0 : w2.cell? ⟨ga, 0, none⟩ = some (.int .i64 0) := (blk_cell BA.out 0).trans rfl; have x1 : w2.cell? ⟨ga, 1, none⟩ = some (.int .i64 0) := (blk_cell BA.out 1).trans rfl; have x2 : w2.cell? ⟨ga, 2, none⟩ = some (.int .i64 0) := (blk_cell BA.out 2).trans rfl; have q0 := blk_frozen BA.out 0; have q1 := blk_frozen BA.out 1; have q2 := blk_frozen BA.out 2))
  refine wp_loop_rounds 1 ?_
  rw [rounds_succ]
  go_wp2_with (first | (go_at_call 97; (with_reducible refine (atoi_bad p0 h0s h0.out _ (Laid.below HL.out bl_)).mono ?_); rintro e w3 ⟨u, N, rfl, hb⟩; have n0_ := Aside0.mk (below_step HB.out hb); have n1_ := Aside0.mk (blk_below BK.out hb); have n2_ := Aside0.mk (blk_below BG.out hb); have n3_ := Aside0.mk (blk_below BA.out hb); clear HB BK BG BA y0 y1 y2 x0 x1 x2 q0 q1 q2; have HB := n0_; have BK := n1_; have BG := n2_; have BA := n3_; clear n0_ n1_ n2_ n3_; clear hb; have y0 : w3.cell? ⟨g, 0, none⟩ = some (.string p0) := (blk_cell BG.out 0).trans rfl; have y1 : w3.cell? ⟨g, 1, none⟩ = some (.string p1) := (blk_cell BG.out 1).trans rfl; have y2 : w3.cell? ⟨g, 2, none⟩ = some (.string p2) := (blk_cell BG.out 2).trans rfl; have x0 : w3.cell? ⟨ga, 0, none⟩ = some (.int .i64 0) := (blk_cell BA.out 0).trans rfl; have x1 : w3.cell? ⟨ga, 1, none⟩ = some (.int .i64 0) := (blk_cell BA.out 1).trans rfl; have x2 : w3.cell? ⟨ga, 2, none⟩ = some (.int .i64 0) := (blk_cell BA.out 2).trans rfl; have q0 := blk_frozen BA.out 0; have q1 := blk_frozen BA.out 1; have q2 := blk_frozen BA.out 2; have z0 : w3.cell? ⟨w.heap.size, 0, none⟩ = some (.int .i64 0) := (blk_cell BK.out 0).trans rfl; have z1 : w3.cell? ⟨w.heap.size, 1, none⟩ = some (.int .i64 0) := (blk_cell BK.out 1).trans rfl; have z2 : w3.cell? ⟨w.heap.size, 2, none⟩ = some (.int .i64 0) := (blk_cell BK.out 2).trans rfl; have f0 := blk_frozen BK.out 0; have f1 := blk_frozen BK.out 1; have f2 := blk_frozen BK.out 2))
  refine bodyPost_ret (results_ct rfl _ _ w.heap.size 26 #[.int .i64 0, .int .i64 0, .int .i64 0] (0, 0) _ rfl (by refine blk_put (cs := #[.int .i64 0, .int .i64 0, .int .i64 0]) ?_ 2 _ rfl; refine blk_put (cs := #[.int .i64 0, .int .i64 0, .int .i64 0]) ?_ 1 _ rfl; refine blk_put (cs := #[.int .i64 0, .int .i64 0, .int .i64 0]) ?_ 0 _ rfl; exact BK.out) Tryz.underlying26 rfl (by kernel_rfl)) rfl ?_
  exact ⟨rfl, by repeat (first | exact HB.out | refine below_set ?_ (Nat.le_refl _))⟩
theorem parse_bad1 (s : ByteArray) (w : World) (hl : Laid w) (hs : s.size < 4294967281) (p0 p1 p2 : ByteArray) (h : Lib.splitB ⟨#[45]⟩ 0 (Lib.countB s ⟨#[45]⟩) s = [p0, p1, p2]) (h0s : p0.size ≤ 4294967280) (h1s : p1.size ≤ 4294967280) (h2s : p2.size ≤ 4294967280) (v0 : Int) (h0 : Lib.atoiAll p0.data.toList = .ok v0) (h1 : ∀ v, Lib.atoiAll p1.data.toList ≠ .ok v) :
    Calls Tryz.prog 27 #[.string s] w (Parsed w.heap.size w 0 0 0 (some 3)) := by
  have H := Lib.hid h; clear h; have n_ := Lib.hid h0; clear h0; have h0 := n_; clear n_; have n_ := Lib.hid h1; clear h1; have h1 := n_; clear n_; have HB := Aside0.mk (Below.refl w.heap.size w); have HL := Aside0.mk hl; clear hl
  go_enter Tryz.func27, Tryz.ntmps27
  go_wp2_with (first | (go_at_call 96; (refine (split_3 s hs p0 p1 p2 H.out _ (Laid.below HL.out bl_)).mono ?_); rintro e w1 ⟨g, rfl, hg, hc, hb⟩; have BG := Aside0.mk hc; have BK := Aside0.mk (blk_below (blk_new w _) hb); replace HB := Aside0.mk (below_step (below_alloc HB.out _) hb); clear hb hc hg; have z0 : w1.cell? ⟨w.heap.size, 0, none⟩ = some (.int .i64 0) := (blk_cell BK.out 0).trans rfl; have z1 : w1.cell? ⟨w.heap.size, 1, none⟩ = some (.int .i64 0) := (blk_cell BK.out 1).trans rfl; have z2 : w1.cell? ⟨w.heap.size, 2, none⟩ = some (.int .i64 0) := (blk_cell BK.out 2).trans rfl; have f0 := blk_frozen BK.out 0; have f1 := blk_frozen BK.out 1; have f2 := blk_frozen BK.out 2) | ((with_reducible refine gate_dst (N := 5) rfl ?_); refine be_ (N := 5) (cs := #[.int .i64 0, .int .i64 0, .int .i64 0]) (t := 164) ?_; intro ga hga w2 hbox hb2; have GA := Aside0.mk (show w.heap.size ≤ ga by rw [hga]; exact below_size HB.out); have n0_ := Aside0.mk (below_step HB.out hb2); have n1_ := Aside0.mk (blk_below BK.out hb2); have n2_ := Aside0.mk (blk_below BG.out hb2); have BA := Aside0.mk hbox; clear HB BK BG z0 z1 z2 f0 f1 f2; have HB := n0_; have BK := n1_; have BG := n2_; clear n0_ n1_ n2_; clear hb2 hbox hga; have NKA := Aside0.mk (blk_ne BK.out BA.out (by decide)); have NGA := Aside0.mk (blk_ne BG.out BA.out (by decide)); have y0 : w2.cell? ⟨g, 0, none⟩ = some (.string p0) := (blk_cell BG.out 0).trans rfl; have y1 : w2.cell? ⟨g, 1, none⟩ = some (.string p1) := (blk_cell BG.out 1).trans rfl; have y2 : w2.cell? ⟨g, 2, none⟩ = some (.string p2) := (blk_cell BG.out 2).trans rfl; have x0 : w2.cell? ⟨ga, 0, none⟩ = some (.int .i64 0) := (blk_cell BA.out 0).trans rfl; have x1 : w2.cell? ⟨ga, 1, none⟩ = some (.int .i64 0) := (blk_cell BA.out 1).trans rfl; have x2 : w2.cell? ⟨ga, 2, none⟩ = some (.int .i64 0) := (blk_cell BA.out 2).trans rfl; have q0 := blk_frozen BA.out 0; have q1 := blk_frozen BA.out 1; have q2 := blk_frozen BA.out 2))
  refine wp_loop_rounds 2 ?_
  rw [rounds_succ]
  go_wp2_with (first | (go_at_call 97; (with_reducible refine (atoi_ok p0 h0s v0 h0.out _).mono ?_); rintro e w3 ⟨rfl, hb⟩; have n0_ := Aside0.mk (below_step HB.out hb); have n1_ := Aside0.mk (blk_below BK.out hb); have n2_ := Aside0.mk (blk_below BG.out hb); have n3_ := Aside0.mk (blk_below BA.out hb); clear HB BK BG BA y0 y1 y2 x0 x1 x2 q0 q1 q2; have HB := n0_; have BK := n1_; have BG := n2_; have BA := n3_; clear n0_ n1_ n2_ n3_; clear hb; have y0 : w3.cell? ⟨g, 0, none⟩ = some (.string p0) := (blk_cell BG.out 0).trans rfl; have y1 : w3.cell? ⟨g, 1, none⟩ = some (.string p1) := (blk_cell BG.out 1).trans rfl; have y2 : w3.cell? ⟨g, 2, none⟩ = some (.string p2) := (blk_cell BG.out 2).trans rfl; have x0 : w3.cell? ⟨ga, 0, none⟩ = some (.int .i64 0) := (blk_cell BA.out 0).trans rfl; have x1 : w3.cell? ⟨ga, 1, none⟩ = some (.int .i64 0) := (blk_cell BA.out 1).trans rfl; have x2 : w3.cell? ⟨ga, 2, none⟩ = some (.int .i64 0) := (blk_cell BA.out 2).trans rfl; have q0 := blk_frozen BA.out 0; have q1 := blk_frozen BA.out 1; have q2 := blk_frozen BA.out 2; have z0 : w3.cell? ⟨w.heap.size, 0, none⟩ = some (.int .i64 0) := (blk_cell BK.out 0).trans rfl; have z1 : w3.cell? ⟨w.heap.size, 1, none⟩ = some (.int .i64 0) := (blk_cell BK.out 1).trans rfl; have z2 : w3.cell? ⟨w.heap.size, 2, none⟩ = some (.int .i64 0) := (blk_cell BK.out 2).trans rfl; have f0 := blk_frozen BK.out 0; have f1 := blk_frozen BK.out 1; have f2 := blk_frozen BK.out 2))
  rw [rounds_succ]
  go_wp2_with (first | (go_at_call 97; (with_reducible refine (atoi_bad p1 h1s h1.out _ (Laid.below HL.out bl_)).mono ?_); rintro e w4 ⟨u, N, rfl, hb⟩; have n0_ := Aside0.mk (below_step (below_set HB.out GA.out) hb); have n1_ := Aside0.mk (blk_below (blk_far BK.out NKA.out _) hb); have n2_ := Aside0.mk (blk_below (blk_far BG.out NGA.out _) hb); have n3_ := Aside0.mk (blk_below (blk_put (cs' := #[.int .i64 v0, .int .i64 0, .int .i64 0]) BA.out 0 (.int .i64 v0) rfl) hb); clear HB BK BG BA y0 y1 y2 x0 x1 x2 q0 q1 q2; have HB := n0_; have BK := n1_; have BG := n2_; have BA := n3_; clear n0_ n1_ n2_ n3_; clear hb; have y0 : w4.cell? ⟨g, 0, none⟩ = some (.string p0) := (blk_cell BG.out 0).trans rfl; have y1 : w4.cell? ⟨g, 1, none⟩ = some (.string p1) := (blk_cell BG.out 1).trans rfl; have y2 : w4.cell? ⟨g, 2, none⟩ = some (.string p2) := (blk_cell BG.out 2).trans rfl; have x0 : w4.cell? ⟨ga, 0, none⟩ = some (.int .i64 v0) := (blk_cell BA.out 0).trans rfl; have x1 : w4.cell? ⟨ga, 1, none⟩ = some (.int .i64 0) := (blk_cell BA.out 1).trans rfl; have x2 : w4.cell? ⟨ga, 2, none⟩ = some (.int .i64 0) := (blk_cell BA.out 2).trans rfl; have q0 := blk_frozen BA.out 0; have q1 := blk_frozen BA.out 1; have q2 := blk_frozen BA.out 2; have z0 : w4.cell? ⟨w.heap.size, 0, none⟩ = some (.int .i64 0) := (blk_cell BK.out 0).trans rfl; have z1 : w4.cell? ⟨w.heap.size, 1, none⟩ = some (.int .i64 0) := (blk_cell BK.out 1).trans rfl; have z2 : w4.cell? ⟨w.heap.size, 2, none⟩ = some (.int .i64 0) := (blk_cell BK.out 2).trans rfl; have f0 := blk_frozen BK.out 0; have f1 := blk_frozen BK.out 1; have f2 := blk_frozen BK.out 2))
  refine bodyPost_ret (results_ct rfl _ _ w.heap.size 26 #[.int .i64 0, .int .i64 0, .int .i64 0] (0, 0) _ rfl (by refine blk_put (cs := #[.int .i64 0, .int .i64 0, .int .i64 0]) ?_ 2 _ rfl; refine blk_put (cs := #[.int .i64 0, .int .i64 0, .int .i64 0]) ?_ 1 _ rfl; refine blk_put (cs := #[.int .i64 0, .int .i64 0, .int .i64 0]) ?_ 0 _ rfl; exact BK.out) Tryz.underlying26 rfl (by kernel_rfl)) rfl ?_
  exact ⟨rfl, by repeat (first | exact HB.out | refine below_set ?_ (Nat.le_refl _))⟩
theorem parse_bad2 (s : ByteArray) (w : World) (hl : Laid w) (hs : s.size < 4294967281) (p0 p1 p2 : ByteArray) (h : Lib.splitB ⟨#[45]⟩ 0 (Lib.countB s ⟨#[45]⟩) s = [p0, p1, p2]) (h0s : p0.size ≤ 4294967280) (h1s : p1.size ≤ 4294967280) (h2s : p2.size ≤ 4294967280) (v0 : Int) (h0 : Lib.atoiAll p0.data.toList = .ok v0) (v1 : Int) (h1 : Lib.atoiAll p1.data.toList = .ok v1) (h2 : ∀ v, Lib.atoiAll p2.data.toList ≠ .ok v) :
    Calls Tryz.prog 27 #[.string s] w (Parsed w.heap.size w 0 0 0 (some 3)) := by
  have H := Lib.hid h; clear h; have n_ := Lib.hid h0; clear h0; have h0 := n_; clear n_; have n_ := Lib.hid h1; clear h1; have h1 := n_; clear n_; have n_ := Lib.hid h2; clear h2; have h2 := n_; clear n_; have HB := Aside0.mk (Below.refl w.heap.size w); have HL := Aside0.mk hl; clear hl
  go_enter Tryz.func27, Tryz.ntmps27
  go_wp2_with (first | (go_at_call 96; (refine (split_3 s hs p0 p1 p2 H.out _ (Laid.below HL.out bl_)).mono ?_); rintro e w1 ⟨g, rfl, hg, hc, hb⟩; have BG := Aside0.mk hc; have BK := Aside0.mk (blk_below (blk_new w _) hb); replace HB := Aside0.mk (below_step (below_alloc HB.out _) hb); clear hb hc hg; have z0 : w1.cell? ⟨w.heap.size, 0, none⟩ = some (.int .i64 0) := (blk_cell BK.out 0).trans rfl; have z1 : w1.cell? ⟨w.heap.size, 1, none⟩ = some (.int .i64 0) := (blk_cell BK.out 1).trans rfl; have z2 : w1.cell? ⟨w.heap.size, 2, none⟩ = some (.int .i64 0) := (blk_cell BK.out 2).trans rfl; have f0 := blk_frozen BK.out 0; have f1 := blk_frozen BK.out 1; have f2 := blk_frozen BK.out 2) | ((with_reducible refine gate_dst (N := 5) rfl ?_); refine be_ (N := 5) (cs := #[.int .i64 0, .int .i64 0, .int .i64 0]) (t := 164) ?_; intro ga hga w2 hbox hb2; have GA := Aside0.mk (show w.heap.size ≤ ga by rw [hga]; exact below_size HB.out); have n0_ := Aside0.mk (below_step HB.out hb2); have n1_ := Aside0.mk (blk_below BK.out hb2); have n2_ := Aside0.mk (blk_below BG.out hb2); have BA := Aside0.mk hbox; clear HB BK BG z0 z1 z2 f0 f1 f2; have HB := n0_; have BK := n1_; have BG := n2_; clear n0_ n1_ n2_; clear hb2 hbox hga; have NKA := Aside0.mk (blk_ne BK.out BA.out (by decide)); have NGA := Aside0.mk (blk_ne BG.out BA.out (by decide)); have y0 : w2.cell? ⟨g, 0, none⟩ = some (.string p0) := (blk_cell BG.out 0).trans rfl; have y1 : w2.cell? ⟨g, 1, none⟩ = some (.string p1) := (blk_cell BG.out 1).trans rfl; have y2 : w2.cell? ⟨g, 2, none⟩ = some (.string p2) := (blk_cell BG.out 2).trans rfl; have x0 : w2.cell? ⟨ga, 0, none⟩ = some (.int .i64 0) := (blk_cell BA.out 0).trans rfl; have x1 : w2.cell? ⟨ga, 1, none⟩ = some (.int .i64 0) := (blk_cell BA.out 1).trans rfl; have x2 : w2.cell? ⟨ga, 2, none⟩ = some (.int .i64 0) := (blk_cell BA.out 2).trans rfl; have q0 := blk_frozen BA.out 0; have q1 := blk_frozen BA.out 1; have q2 := blk_frozen BA.out 2))
  refine wp_loop_rounds 3 ?_
  rw [rounds_succ]
  go_wp2_with (first | (go_at_call 97; (with_reducible refine (atoi_ok p0 h0s v0 h0.out _).mono ?_); rintro e w3 ⟨rfl, hb⟩; have n0_ := Aside0.mk (below_step HB.out hb); have n1_ := Aside0.mk (blk_below BK.out hb); have n2_ := Aside0.mk (blk_below BG.out hb); have n3_ := Aside0.mk (blk_below BA.out hb); clear HB BK BG BA y0 y1 y2 x0 x1 x2 q0 q1 q2; have HB := n0_; have BK := n1_; have BG := n2_; have BA := n3_; clear n0_ n1_ n2_ n3_; clear hb; have y0 : w3.cell? ⟨g, 0, none⟩ = some (.string p0) := (blk_cell BG.out 0).trans rfl; have y1 : w3.cell? ⟨g, 1, none⟩ = some (.string p1) := (blk_cell BG.out 1).trans rfl; have y2 : w3.cell? ⟨g, 2, none⟩ = some (.string p2) := (blk_cell BG.out 2).trans rfl; have x0 : w3.cell? ⟨ga, 0, none⟩ = some (.int .i64 0) := (blk_cell BA.out 0).trans rfl; have x1 : w3.cell? ⟨ga, 1, none⟩ = some (.int .i64 0) := (blk_cell BA.out 1).trans rfl; have x2 : w3.cell? ⟨ga, 2, none⟩ = some (.int .i64 0) := (blk_cell BA.out 2).trans rfl; have q0 := blk_frozen BA.out 0; have q1 := blk_frozen BA.out 1; have q2 := blk_frozen BA.out 2; have z0 : w3.cell? ⟨w.heap.size, 0, none⟩ = some (.int .i64 0) := (blk_cell BK.out 0).trans rfl; have z1 : w3.cell? ⟨w.heap.size, 1, none⟩ = some (.int .i64 0) := (blk_cell BK.out 1).trans rfl; have z2 : w3.cell? ⟨w.heap.size, 2, none⟩ = some (.int .i64 0) := (blk_cell BK.out 2).trans rfl; have f0 := blk_frozen BK.out 0; have f1 := blk_frozen BK.out 1; have f2 := blk_frozen BK.out 2))
  rw [rounds_succ]
  go_wp2_with (first | (go_at_call 97; (with_reducible refine (atoi_ok p1 h1s v1 h1.out _).mono ?_); rintro e w4 ⟨rfl, hb⟩; have n0_ := Aside0.mk (below_step (below_set HB.out GA.out) hb); have n1_ := Aside0.mk (blk_below (blk_far BK.out NKA.out _) hb); have n2_ := Aside0.mk (blk_below (blk_far BG.out NGA.out _) hb); have n3_ := Aside0.mk (blk_below (blk_put (cs' := #[.int .i64 v0, .int .i64 0, .int .i64 0]) BA.out 0 (.int .i64 v0) rfl) hb); clear HB BK BG BA y0 y1 y2 x0 x1 x2 q0 q1 q2; have HB := n0_; have BK := n1_; have BG := n2_; have BA := n3_; clear n0_ n1_ n2_ n3_; clear hb; have y0 : w4.cell? ⟨g, 0, none⟩ = some (.string p0) := (blk_cell BG.out 0).trans rfl; have y1 : w4.cell? ⟨g, 1, none⟩ = some (.string p1) := (blk_cell BG.out 1).trans rfl; have y2 : w4.cell? ⟨g, 2, none⟩ = some (.string p2) := (blk_cell BG.out 2).trans rfl; have x0 : w4.cell? ⟨ga, 0, none⟩ = some (.int .i64 v0) := (blk_cell BA.out 0).trans rfl; have x1 : w4.cell? ⟨ga, 1, none⟩ = some (.int .i64 0) := (blk_cell BA.out 1).trans rfl; have x2 : w4.cell? ⟨ga, 2, none⟩ = some (.int .i64 0) := (blk_cell BA.out 2).trans rfl; have q0 := blk_frozen BA.out 0; have q1 := blk_frozen BA.out 1; have q2 := blk_frozen BA.out 2; have z0 : w4.cell? ⟨w.heap.size, 0, none⟩ = some (.int .i64 0) := (blk_cell BK.out 0).trans rfl; have z1 : w4.cell? ⟨w.heap.size, 1, none⟩ = some (.int .i64 0) := (blk_cell BK.out 1).trans rfl; have z2 : w4.cell? ⟨w.heap.size, 2, none⟩ = some (.int .i64 0) := (blk_cell BK.out 2).trans rfl; have f0 := blk_frozen BK.out 0; have f1 := blk_frozen BK.out 1; have f2 := blk_frozen BK.out 2))
  rw [rounds_succ]
  go_wp2_with (first | (go_at_call 97; (with_reducible refine (atoi_bad p2 h2s h2.out _ (Laid.below HL.out bl_)).mono ?_); rintro e w5 ⟨u, N, rfl, hb⟩; have n0_ := Aside0.mk (below_step (below_set HB.out GA.out) hb); have n1_ := Aside0.mk (blk_below (blk_far BK.out NKA.out _) hb); have n2_ := Aside0.mk (blk_below (blk_far BG.out NGA.out _) hb); have n3_ := Aside0.mk (blk_below (blk_put (cs' := #[.int .i64 v0, .int .i64 v1, .int .i64 0]) BA.out 1 (.int .i64 v1) rfl) hb); clear HB BK BG BA y0 y1 y2 x0 x1 x2 q0 q1 q2; have HB := n0_; have BK := n1_; have BG := n2_; have BA := n3_; clear n0_ n1_ n2_ n3_; clear hb; have y0 : w5.cell? ⟨g, 0, none⟩ = some (.string p0) := (blk_cell BG.out 0).trans rfl; have y1 : w5.cell? ⟨g, 1, none⟩ = some (.string p1) := (blk_cell BG.out 1).trans rfl; have y2 : w5.cell? ⟨g, 2, none⟩ = some (.string p2) := (blk_cell BG.out 2).trans rfl; have x0 : w5.cell? ⟨ga, 0, none⟩ = some (.int .i64 v0) := (blk_cell BA.out 0).trans rfl; have x1 : w5.cell? ⟨ga, 1, none⟩ = some (.int .i64 v1) := (blk_cell BA.out 1).trans rfl; have x2 : w5.cell? ⟨ga, 2, none⟩ = some (.int .i64 0) := (blk_cell BA.out 2).trans rfl; have q0 := blk_frozen BA.out 0; have q1 := blk_frozen BA.out 1; have q2 := blk_frozen BA.out 2; have z0 : w5.cell? ⟨w.heap.size, 0, none⟩ = some (.int .i64 0) := (blk_cell BK.out 0).trans rfl; have z1 : w5.cell? ⟨w.heap.size, 1, none⟩ = some (.int .i64 0) := (blk_cell BK.out 1).trans rfl; have z2 : w5.cell? ⟨w.heap.size, 2, none⟩ = some (.int .i64 0) := (blk_cell BK.out 2).trans rfl; have f0 := blk_frozen BK.out 0; have f1 := blk_frozen BK.out 1; have f2 := blk_frozen BK.out 2))
  refine bodyPost_ret (results_ct rfl _ _ w.heap.size 26 #[.int .i64 0, .int .i64 0, .int .i64 0] (0, 0) _ rfl (by refine blk_put (cs := #[.int .i64 0, .int .i64 0, .int .i64 0]) ?_ 2 _ rfl; refine blk_put (cs := #[.int .i64 0, .int .i64 0, .int .i64 0]) ?_ 1 _ rfl; refine blk_put (cs := #[.int .i64 0, .int .i64 0, .int .i64 0]) ?_ 0 _ rfl; exact BK.out) Tryz.underlying26 rfl (by kernel_rfl)) rfl ?_
  exact ⟨rfl, by repeat (first | exact HB.out | refine below_set ?_ (Nat.le_refl _))⟩
theorem parse_inv (s : ByteArray) (w : World) (hl : Laid w) (hs : s.size < 4294967281) (p0 p1 p2 : ByteArray) (h : Lib.splitB ⟨#[45]⟩ 0 (Lib.countB s ⟨#[45]⟩) s = [p0, p1, p2]) (h0s : p0.size ≤ 4294967280) (h1s : p1.size ≤ 4294967280) (h2s : p2.size ≤ 4294967280) (v0 : Int) (h0 : Lib.atoiAll p0.data.toList = .ok v0) (v1 : Int) (h1 : Lib.atoiAll p1.data.toList = .ok v1) (v2 : Int) (h2 : Lib.atoiAll p2.data.toList = .ok v2) (nv : ¬ vld v0 v1 v2) :
    Calls Tryz.prog 27 #[.string s] w (Parsed w.heap.size w 0 0 0 (some 3)) := by
  have H := Lib.hid h; clear h; have n_ := Lib.hid h0; clear h0; have h0 := n_; clear n_; have n_ := Lib.hid h1; clear h1; have h1 := n_; clear n_; have n_ := Lib.hid h2; clear h2; have h2 := n_; clear n_; have hT := Aside0.mk (show civil_Text.f 2 v0 v1 v2 = some (⟨#[]⟩, some 1) by rw [CivP.text 2 _ _ _ (by omega), if_neg nv]); clear nv; have HB := Aside0.mk (Below.refl w.heap.size w); have HL := Aside0.mk hl; clear hl
  go_enter Tryz.func27, Tryz.ntmps27
  go_wp2_with (first | (go_at_call 96; (refine (split_3 s hs p0 p1 p2 H.out _ (Laid.below HL.out bl_)).mono ?_); rintro e w1 ⟨g, rfl, hg, hc, hb⟩; have BG := Aside0.mk hc; have BK := Aside0.mk (blk_below (blk_new w _) hb); replace HB := Aside0.mk (below_step (below_alloc HB.out _) hb); clear hb hc hg; have z0 : w1.cell? ⟨w.heap.size, 0, none⟩ = some (.int .i64 0) := (blk_cell BK.out 0).trans rfl; have z1 : w1.cell? ⟨w.heap.size, 1, none⟩ = some (.int .i64 0) := (blk_cell BK.out 1).trans rfl; have z2 : w1.cell? ⟨w.heap.size, 2, none⟩ = some (.int .i64 0) := (blk_cell BK.out 2).trans rfl; have f0 := blk_frozen BK.out 0; have f1 := blk_frozen BK.out 1; have f2 := blk_frozen BK.out 2) | ((with_reducible refine gate_dst (N := 5) rfl ?_); refine be_ (N := 5) (cs := #[.int .i64 0, .int .i64 0, .int .i64 0]) (t := 164) ?_; intro ga hga w2 hbox hb2; have GA := Aside0.mk (show w.heap.size ≤ ga by rw [hga]; exact below_size HB.out); have n0_ := Aside0.mk (below_step HB.out hb2); have n1_ := Aside0.mk (blk_below BK.out hb2); have n2_ := Aside0.mk (blk_below BG.out hb2); have BA := Aside0.mk hbox; clear HB BK BG z0 z1 z2 f0 f1 f2; have HB := n0_; have BK := n1_; have BG := n2_; clear n0_ n1_ n2_; clear hb2 hbox hga; have NKA := Aside0.mk (blk_ne BK.out BA.out (by decide)); have NGA := Aside0.mk (blk_ne BG.out BA.out (by decide)); have y0 : w2.cell? ⟨g, 0, none⟩ = some (.string p0) := (blk_cell BG.out 0).trans rfl; have y1 : w2.cell? ⟨g, 1, none⟩ = some (.string p1) := (blk_cell BG.out 1).trans rfl; have y2 : w2.cell? ⟨g, 2, none⟩ = some (.string p2) := (blk_cell BG.out 2).trans rfl; have x0 : w2.cell? ⟨ga, 0, none⟩ = some (.int .i64 0) := (blk_cell BA.out 0).trans rfl; have x1 : w2.cell? ⟨ga, 1, none⟩ = some (.int .i64 0) := (blk_cell BA.out 1).trans rfl; have x2 : w2.cell? ⟨ga, 2, none⟩ = some (.int .i64 0) := (blk_cell BA.out 2).trans rfl; have q0 := blk_frozen BA.out 0; have q1 := blk_frozen BA.out 1; have q2 := blk_frozen BA.out 2))
  refine wp_loop_rounds 4 ?_
  rw [rounds_succ]
  go_wp2_with (first | (go_at_call 97; (with_reducible refine (atoi_ok p0 h0s v0 h0.out _).mono ?_); rintro e w3 ⟨rfl, hb⟩; have n0_ := Aside0.mk (below_step HB.out hb); have n1_ := Aside0.mk (blk_below BK.out hb); have n2_ := Aside0.mk (blk_below BG.out hb); have n3_ := Aside0.mk (blk_below BA.out hb); clear HB BK BG BA y0 y1 y2 x0 x1 x2 q0 q1 q2; have HB := n0_; have BK := n1_; have BG := n2_; have BA := n3_; clear n0_ n1_ n2_ n3_; clear hb; have y0 : w3.cell? ⟨g, 0, none⟩ = some (.string p0) := (blk_cell BG.out 0).trans rfl; have y1 : w3.cell? ⟨g, 1, none⟩ = some (.string p1) := (blk_cell BG.out 1).trans rfl; have y2 : w3.cell? ⟨g, 2, none⟩ = some (.string p2) := (blk_cell BG.out 2).trans rfl; have x0 : w3.cell? ⟨ga, 0, none⟩ = some (.int .i64 0) := (blk_cell BA.out 0).trans rfl; have x1 : w3.cell? ⟨ga, 1, none⟩ = some (.int .i64 0) := (blk_cell BA.out 1).trans rfl; have x2 : w3.cell? ⟨ga, 2, none⟩ = some (.int .i64 0) := (blk_cell BA.out 2).trans rfl; have q0 := blk_frozen BA.out 0; have q1 := blk_frozen BA.out 1; have q2 := blk_frozen BA.out 2; have z0 : w3.cell? ⟨w.heap.size, 0, none⟩ = some (.int .i64 0) := (blk_cell BK.out 0).trans rfl; have z1 : w3.cell? ⟨w.heap.size, 1, none⟩ = some (.int .i64 0) := (blk_cell BK.out 1).trans rfl; have z2 : w3.cell? ⟨w.heap.size, 2, none⟩ = some (.int .i64 0) := (blk_cell BK.out 2).trans rfl; have f0 := blk_frozen BK.out 0; have f1 := blk_frozen BK.out 1; have f2 := blk_frozen BK.out 2))
  rw [rounds_succ]
  go_wp2_with (first | (go_at_call 97; (with_reducible refine (atoi_ok p1 h1s v1 h1.out _).mono ?_); rintro e w4 ⟨rfl, hb⟩; have n0_ := Aside0.mk (below_step (below_set HB.out GA.out) hb); have n1_ := Aside0.mk (blk_below (blk_far BK.out NKA.out _) hb); have n2_ := Aside0.mk (blk_below (blk_far BG.out NGA.out _) hb); have n3_ := Aside0.mk (blk_below (blk_put (cs' := #[.int .i64 v0, .int .i64 0, .int .i64 0]) BA.out 0 (.int .i64 v0) rfl) hb); clear HB BK BG BA y0 y1 y2 x0 x1 x2 q0 q1 q2; have HB := n0_; have BK := n1_; have BG := n2_; have BA := n3_; clear n0_ n1_ n2_ n3_; clear hb; have y0 : w4.cell? ⟨g, 0, none⟩ = some (.string p0) := (blk_cell BG.out 0).trans rfl; have y1 : w4.cell? ⟨g, 1, none⟩ = some (.string p1) := (blk_cell BG.out 1).trans rfl; have y2 : w4.cell? ⟨g, 2, none⟩ = some (.string p2) := (blk_cell BG.out 2).trans rfl; have x0 : w4.cell? ⟨ga, 0, none⟩ = some (.int .i64 v0) := (blk_cell BA.out 0).trans rfl; have x1 : w4.cell? ⟨ga, 1, none⟩ = some (.int .i64 0) := (blk_cell BA.out 1).trans rfl; have x2 : w4.cell? ⟨ga, 2, none⟩ = some (.int .i64 0) := (blk_cell BA.out 2).trans rfl; have q0 := blk_frozen BA.out 0; have q1 := blk_frozen BA.out 1; have q2 := blk_frozen BA.out 2; have z0 : w4.cell? ⟨w.heap.size, 0, none⟩ = some (.int .i64 0) := (blk_cell BK.out 0).trans rfl; have z1 : w4.cell? ⟨w.heap.size, 1, none⟩ = some (.int .i64 0) := (blk_cell BK.out 1).trans rfl; have z2 : w4.cell? ⟨w.heap.size, 2, none⟩ = some (.int .i64 0) := (blk_cell BK.out 2).trans rfl; have f0 := blk_frozen BK.out 0; have f1 := blk_frozen BK.out 1; have f2 := blk_frozen BK.out 2))
  rw [rounds_succ]
  go_wp2_with (first | (go_at_call 97; (with_reducible refine (atoi_ok p2 h2s v2 h2.out _).mono ?_); rintro e w5 ⟨rfl, hb⟩; have n0_ := Aside0.mk (below_step (below_set HB.out GA.out) hb); have n1_ := Aside0.mk (blk_below (blk_far BK.out NKA.out _) hb); have n2_ := Aside0.mk (blk_below (blk_far BG.out NGA.out _) hb); have n3_ := Aside0.mk (blk_below (blk_put (cs' := #[.int .i64 v0, .int .i64 v1, .int .i64 0]) BA.out 1 (.int .i64 v1) rfl) hb); clear HB BK BG BA y0 y1 y2 x0 x1 x2 q0 q1 q2; have HB := n0_; have BK := n1_; have BG := n2_; have BA := n3_; clear n0_ n1_ n2_ n3_; clear hb; have y0 : w5.cell? ⟨g, 0, none⟩ = some (.string p0) := (blk_cell BG.out 0).trans rfl; have y1 : w5.cell? ⟨g, 1, none⟩ = some (.string p1) := (blk_cell BG.out 1).trans rfl; have y2 : w5.cell? ⟨g, 2, none⟩ = some (.string p2) := (blk_cell BG.out 2).trans rfl; have x0 : w5.cell? ⟨ga, 0, none⟩ = some (.int .i64 v0) := (blk_cell BA.out 0).trans rfl; have x1 : w5.cell? ⟨ga, 1, none⟩ = some (.int .i64 v1) := (blk_cell BA.out 1).trans rfl; have x2 : w5.cell? ⟨ga, 2, none⟩ = some (.int .i64 0) := (blk_cell BA.out 2).trans rfl; have q0 := blk_frozen BA.out 0; have q1 := blk_frozen BA.out 1; have q2 := blk_frozen BA.out 2; have z0 : w5.cell? ⟨w.heap.size, 0, none⟩ = some (.int .i64 0) := (blk_cell BK.out 0).trans rfl; have z1 : w5.cell? ⟨w.heap.size, 1, none⟩ = some (.int .i64 0) := (blk_cell BK.out 1).trans rfl; have z2 : w5.cell? ⟨w.heap.size, 2, none⟩ = some (.int .i64 0) := (blk_cell BK.out 2).trans rfl; have f0 := blk_frozen BK.out 0; have f1 := blk_frozen BK.out 1; have f2 := blk_frozen BK.out 2))
  rw [rounds_succ]
  go_wp2_with (first | (go_at_call 26; (with_reducible refine (civil_Text.calls 2 v0 v1 v2 ⟨#[]⟩ (some 1) _ (Laid.below HL.out bl_) hT.out).mono ?_); rintro e w6 ⟨rfl, hb⟩; (try simp only [errW_none, errW_some]); have BD := Aside0.mk (show w6.heap[w5.heap.size]? = some (.cells #[.int .i64 v0, .int .i64 v1, .int .i64 v2] 26 (0, 0)) from by have q_ := blk_below (blk_new _ _) hb; simpa [World.setCell] using q_); replace BK := Aside0.mk (blk_below (blk_alloc (blk_far (p := ⟨ga, 2, none⟩) BK.out NKA.out (.int .i64 v2)) _) hb); replace HB := Aside0.mk (below_step (by repeat (first | (with_reducible first | exact HB.out | apply below_alloc | refine below_set ?_ GA.out) | exact HB.out)) hb); clear hb; have z0 : w6.cell? ⟨w.heap.size, 0, none⟩ = some (.int .i64 0) := (blk_cell BK.out 0).trans rfl; have z1 : w6.cell? ⟨w.heap.size, 1, none⟩ = some (.int .i64 0) := (blk_cell BK.out 1).trans rfl; have z2 : w6.cell? ⟨w.heap.size, 2, none⟩ = some (.int .i64 0) := (blk_cell BK.out 2).trans rfl; have f0 := blk_frozen BK.out 0; have f1 := blk_frozen BK.out 1; have f2 := blk_frozen BK.out 2; have d0 : w6.cell? ⟨w5.heap.size, 0, none⟩ = some (.int .i64 v0) := (blk_cell BD.out 0).trans rfl; have d1 : w6.cell? ⟨w5.heap.size, 1, none⟩ = some (.int .i64 v1) := (blk_cell BD.out 1).trans rfl; have d2 : w6.cell? ⟨w5.heap.size, 2, none⟩ = some (.int .i64 v2) := (blk_cell BD.out 2).trans rfl; have r0 := blk_frozen BD.out 0; have r1 := blk_frozen BD.out 1; have r2 := blk_frozen BD.out 2))
  refine bodyPost_ret (results_ct rfl _ _ w.heap.size 26 #[.int .i64 0, .int .i64 0, .int .i64 0] (0, 0) _ rfl (by refine blk_put (cs := #[.int .i64 0, .int .i64 0, .int .i64 0]) ?_ 2 _ rfl; refine blk_put (cs := #[.int .i64 0, .int .i64 0, .int .i64 0]) ?_ 1 _ rfl; refine blk_put (cs := #[.int .i64 0, .int .i64 0, .int .i64 0]) ?_ 0 _ rfl; exact BK.out) Tryz.underlying26 rfl (by kernel_rfl)) rfl ?_
  exact ⟨rfl, by repeat (first | exact HB.out | refine below_set ?_ (Nat.le_refl _))⟩
theorem parse_ne (s : ByteArray) (w : World) (hl : Laid w) (hs : s.size < 4294967281) (p0 p1 p2 : ByteArray) (h : Lib.splitB ⟨#[45]⟩ 0 (Lib.countB s ⟨#[45]⟩) s = [p0, p1, p2]) (h0s : p0.size ≤ 4294967280) (h1s : p1.size ≤ 4294967280) (h2s : p2.size ≤ 4294967280) (v0 : Int) (h0 : Lib.atoiAll p0.data.toList = .ok v0) (v1 : Int) (h1 : Lib.atoiAll p1.data.toList = .ok v1) (v2 : Int) (h2 : Lib.atoiAll p2.data.toList = .ok v2) (v : vld v0 v1 v2) (hq : (dtext v0 v1 v2 == s.toList) = false) :
    Calls Tryz.prog 27 #[.string s] w (Parsed w.heap.size w 0 0 0 (some 3)) := by
  have H := Lib.hid h; clear h; have n_ := Lib.hid h0; clear h0; have h0 := n_; clear n_; have n_ := Lib.hid h1; clear h1; have h1 := n_; clear n_; have n_ := Lib.hid h2; clear h2; have h2 := n_; clear n_; have hT := Aside0.mk (show civil_Text.f 2 v0 v1 v2 = some (⟨(dtext v0 v1 v2).toArray⟩, none) by rw [CivP.text 2 _ _ _ (by omega), if_pos v]); clear v; have HB := Aside0.mk (Below.refl w.heap.size w); have HL := Aside0.mk hl; clear hl
  go_enter Tryz.func27, Tryz.ntmps27
  go_wp2_with (first | (go_at_call 96; (refine (split_3 s hs p0 p1 p2 H.out _ (Laid.below HL.out bl_)).mono ?_); rintro e w1 ⟨g, rfl, hg, hc, hb⟩; have BG := Aside0.mk hc; have BK := Aside0.mk (blk_below (blk_new w _) hb); replace HB := Aside0.mk (below_step (below_alloc HB.out _) hb); clear hb hc hg; have z0 : w1.cell? ⟨w.heap.size, 0, none⟩ = some (.int .i64 0) := (blk_cell BK.out 0).trans rfl; have z1 : w1.cell? ⟨w.heap.size, 1, none⟩ = some (.int .i64 0) := (blk_cell BK.out 1).trans rfl; have z2 : w1.cell? ⟨w.heap.size, 2, none⟩ = some (.int .i64 0) := (blk_cell BK.out 2).trans rfl; have f0 := blk_frozen BK.out 0; have f1 := blk_frozen BK.out 1; have f2 := blk_frozen BK.out 2) | ((with_reducible refine gate_dst (N := 5) rfl ?_); refine be_ (N := 5) (cs := #[.int .i64 0, .int .i64 0, .int .i64 0]) (t := 164) ?_; intro ga hga w2 hbox hb2; have GA := Aside0.mk (show w.heap.size ≤ ga by rw [hga]; exact below_size HB.out); have n0_ := Aside0.mk (below_step HB.out hb2); have n1_ := Aside0.mk (blk_below BK.out hb2); have n2_ := Aside0.mk (blk_below BG.out hb2); have BA := Aside0.mk hbox; clear HB BK BG z0 z1 z2 f0 f1 f2; have HB := n0_; have BK := n1_; have BG := n2_; clear n0_ n1_ n2_; clear hb2 hbox hga; have NKA := Aside0.mk (blk_ne BK.out BA.out (by decide)); have NGA := Aside0.mk (blk_ne BG.out BA.out (by decide)); have y0 : w2.cell? ⟨g, 0, none⟩ = some (.string p0) := (blk_cell BG.out 0).trans rfl; have y1 : w2.cell? ⟨g, 1, none⟩ = some (.string p1) := (blk_cell BG.out 1).trans rfl; have y2 : w2.cell? ⟨g, 2, none⟩ = some (.string p2) := (blk_cell BG.out 2).trans rfl; have x0 : w2.cell? ⟨ga, 0, none⟩ = some (.int .i64 0) := (blk_cell BA.out 0).trans rfl; have x1 : w2.cell? ⟨ga, 1, none⟩ = some (.int .i64 0) := (blk_cell BA.out 1).trans rfl; have x2 : w2.cell? ⟨ga, 2, none⟩ = some (.int .i64 0) := (blk_cell BA.out 2).trans rfl; have q0 := blk_frozen BA.out 0; have q1 := blk_frozen BA.out 1; have q2 := blk_frozen BA.out 2))
  refine wp_loop_rounds 4 ?_
  rw [rounds_succ]
  go_wp2_with (first | (go_at_call 97; (with_reducible refine (atoi_ok p0 h0s v0 h0.out _).mono ?_); rintro e w3 ⟨rfl, hb⟩; have n0_ := Aside0.mk (below_step HB.out hb); have n1_ := Aside0.mk (blk_below BK.out hb); have n2_ := Aside0.mk (blk_below BG.out hb); have n3_ := Aside0.mk (blk_below BA.out hb); clear HB BK BG BA y0 y1 y2 x0 x1 x2 q0 q1 q2; have HB := n0_; have BK := n1_; have BG := n2_; have BA := n3_; clear n0_ n1_ n2_ n3_; clear hb; have y0 : w3.cell? ⟨g, 0, none⟩ = some (.string p0) := (blk_cell BG.out 0).trans rfl; have y1 : w3.cell? ⟨g, 1, none⟩ = some (.string p1) := (blk_cell BG.out 1).trans rfl; have y2 : w3.cell? ⟨g, 2, none⟩ = some (.string p2) := (blk_cell BG.out 2).trans rfl; have x0 : w3.cell? ⟨ga, 0, none⟩ = some (.int .i64 0) := (blk_cell BA.out 0).trans rfl; have x1 : w3.cell? ⟨ga, 1, none⟩ = some (.int .i64 0) := (blk_cell BA.out 1).trans rfl; have x2 : w3.cell? ⟨ga, 2, none⟩ = some (.int .i64 0) := (blk_cell BA.out 2).trans rfl; have q0 := blk_frozen BA.out 0; have q1 := blk_frozen BA.out 1; have q2 := blk_frozen BA.out 2; have z0 : w3.cell? ⟨w.heap.size, 0, none⟩ = some (.int .i64 0) := (blk_cell BK.out 0).trans rfl; have z1 : w3.cell? ⟨w.heap.size, 1, none⟩ = some (.int .i64 0) := (blk_cell BK.out 1).trans rfl; have z2 : w3.cell? ⟨w.heap.size, 2, none⟩ = some (.int .i64 0) := (blk_cell BK.out 2).trans rfl; have f0 := blk_frozen BK.out 0; have f1 := blk_frozen BK.out 1; have f2 := blk_frozen BK.out 2))
  rw [rounds_succ]
  go_wp2_with (first | (go_at_call 97; (with_reducible refine (atoi_ok p1 h1s v1 h1.out _).mono ?_); rintro e w4 ⟨rfl, hb⟩; have n0_ := Aside0.mk (below_step (below_set HB.out GA.out) hb); have n1_ := Aside0.mk (blk_below (blk_far BK.out NKA.out _) hb); have n2_ := Aside0.mk (blk_below (blk_far BG.out NGA.out _) hb); have n3_ := Aside0.mk (blk_below (blk_put (cs' := #[.int .i64 v0, .int .i64 0, .int .i64 0]) BA.out 0 (.int .i64 v0) rfl) hb); clear HB BK BG BA y0 y1 y2 x0 x1 x2 q0 q1 q2; have HB := n0_; have BK := n1_; have BG := n2_; have BA := n3_; clear n0_ n1_ n2_ n3_; clear hb; have y0 : w4.cell? ⟨g, 0, none⟩ = some (.string p0) := (blk_cell BG.out 0).trans rfl; have y1 : w4.cell? ⟨g, 1, none⟩ = some (.string p1) := (blk_cell BG.out 1).trans rfl; have y2 : w4.cell? ⟨g, 2, none⟩ = some (.string p2) := (blk_cell BG.out 2).trans rfl; have x0 : w4.cell? ⟨ga, 0, none⟩ = some (.int .i64 v0) := (blk_cell BA.out 0).trans rfl; have x1 : w4.cell? ⟨ga, 1, none⟩ = some (.int .i64 0) := (blk_cell BA.out 1).trans rfl; have x2 : w4.cell? ⟨ga, 2, none⟩ = some (.int .i64 0) := (blk_cell BA.out 2).trans rfl; have q0 := blk_frozen BA.out 0; have q1 := blk_frozen BA.out 1; have q2 := blk_frozen BA.out 2; have z0 : w4.cell? ⟨w.heap.size, 0, none⟩ = some (.int .i64 0) := (blk_cell BK.out 0).trans rfl; have z1 : w4.cell? ⟨w.heap.size, 1, none⟩ = some (.int .i64 0) := (blk_cell BK.out 1).trans rfl; have z2 : w4.cell? ⟨w.heap.size, 2, none⟩ = some (.int .i64 0) := (blk_cell BK.out 2).trans rfl; have f0 := blk_frozen BK.out 0; have f1 := blk_frozen BK.out 1; have f2 := blk_frozen BK.out 2))
  rw [rounds_succ]
  go_wp2_with (first | (go_at_call 97; (with_reducible refine (atoi_ok p2 h2s v2 h2.out _).mono ?_); rintro e w5 ⟨rfl, hb⟩; have n0_ := Aside0.mk (below_step (below_set HB.out GA.out) hb); have n1_ := Aside0.mk (blk_below (blk_far BK.out NKA.out _) hb); have n2_ := Aside0.mk (blk_below (blk_far BG.out NGA.out _) hb); have n3_ := Aside0.mk (blk_below (blk_put (cs' := #[.int .i64 v0, .int .i64 v1, .int .i64 0]) BA.out 1 (.int .i64 v1) rfl) hb); clear HB BK BG BA y0 y1 y2 x0 x1 x2 q0 q1 q2; have HB := n0_; have BK := n1_; have BG := n2_; have BA := n3_; clear n0_ n1_ n2_ n3_; clear hb; have y0 : w5.cell? ⟨g, 0, none⟩ = some (.string p0) := (blk_cell BG.out 0).trans rfl; have y1 : w5.cell? ⟨g, 1, none⟩ = some (.string p1) := (blk_cell BG.out 1).trans rfl; have y2 : w5.cell? ⟨g, 2, none⟩ = some (.string p2) := (blk_cell BG.out 2).trans rfl; have x0 : w5.cell? ⟨ga, 0, none⟩ = some (.int .i64 v0) := (blk_cell BA.out 0).trans rfl; have x1 : w5.cell? ⟨ga, 1, none⟩ = some (.int .i64 v1) := (blk_cell BA.out 1).trans rfl; have x2 : w5.cell? ⟨ga, 2, none⟩ = some (.int .i64 0) := (blk_cell BA.out 2).trans rfl; have q0 := blk_frozen BA.out 0; have q1 := blk_frozen BA.out 1; have q2 := blk_frozen BA.out 2; have z0 : w5.cell? ⟨w.heap.size, 0, none⟩ = some (.int .i64 0) := (blk_cell BK.out 0).trans rfl; have z1 : w5.cell? ⟨w.heap.size, 1, none⟩ = some (.int .i64 0) := (blk_cell BK.out 1).trans rfl; have z2 : w5.cell? ⟨w.heap.size, 2, none⟩ = some (.int .i64 0) := (blk_cell BK.out 2).trans rfl; have f0 := blk_frozen BK.out 0; have f1 := blk_frozen BK.out 1; have f2 := blk_frozen BK.out 2))
  rw [rounds_succ]
  go_wp2_with (first | (go_at_call 26; (with_reducible refine (civil_Text.calls 2 v0 v1 v2 ⟨(dtext v0 v1 v2).toArray⟩ none _ (Laid.below HL.out bl_) hT.out).mono ?_); rintro e w6 ⟨rfl, hb⟩; (try simp only [errW_none, errW_some]); have BD := Aside0.mk (show w6.heap[w5.heap.size]? = some (.cells #[.int .i64 v0, .int .i64 v1, .int .i64 v2] 26 (0, 0)) from by have q_ := blk_below (blk_new _ _) hb; simpa [World.setCell] using q_); replace BK := Aside0.mk (blk_below (blk_alloc (blk_far (p := ⟨ga, 2, none⟩) BK.out NKA.out (.int .i64 v2)) _) hb); replace HB := Aside0.mk (below_step (by repeat (first | (with_reducible first | exact HB.out | apply below_alloc | refine below_set ?_ GA.out) | exact HB.out)) hb); clear hb; have z0 : w6.cell? ⟨w.heap.size, 0, none⟩ = some (.int .i64 0) := (blk_cell BK.out 0).trans rfl; have z1 : w6.cell? ⟨w.heap.size, 1, none⟩ = some (.int .i64 0) := (blk_cell BK.out 1).trans rfl; have z2 : w6.cell? ⟨w.heap.size, 2, none⟩ = some (.int .i64 0) := (blk_cell BK.out 2).trans rfl; have f0 := blk_frozen BK.out 0; have f1 := blk_frozen BK.out 1; have f2 := blk_frozen BK.out 2; have d0 : w6.cell? ⟨w5.heap.size, 0, none⟩ = some (.int .i64 v0) := (blk_cell BD.out 0).trans rfl; have d1 : w6.cell? ⟨w5.heap.size, 1, none⟩ = some (.int .i64 v1) := (blk_cell BD.out 1).trans rfl; have d2 : w6.cell? ⟨w5.heap.size, 2, none⟩ = some (.int .i64 v2) := (blk_cell BD.out 2).trans rfl; have r0 := blk_frozen BD.out 0; have r1 := blk_frozen BD.out 1; have r2 := blk_frozen BD.out 2))
  refine bodyPost_ret (results_ct rfl _ _ w.heap.size 26 #[.int .i64 0, .int .i64 0, .int .i64 0] (0, 0) _ rfl (by refine blk_put (cs := #[.int .i64 0, .int .i64 0, .int .i64 0]) ?_ 2 _ rfl; refine blk_put (cs := #[.int .i64 0, .int .i64 0, .int .i64 0]) ?_ 1 _ rfl; refine blk_put (cs := #[.int .i64 0, .int .i64 0, .int .i64 0]) ?_ 0 _ rfl; exact BK.out) Tryz.underlying26 rfl (by kernel_rfl)) rfl ?_
  exact ⟨rfl, by repeat (first | exact HB.out | refine below_set ?_ (Nat.le_refl _))⟩
theorem parse_eq (s : ByteArray) (w : World) (hl : Laid w) (hs : s.size < 4294967281) (p0 p1 p2 : ByteArray) (h : Lib.splitB ⟨#[45]⟩ 0 (Lib.countB s ⟨#[45]⟩) s = [p0, p1, p2]) (h0s : p0.size ≤ 4294967280) (h1s : p1.size ≤ 4294967280) (h2s : p2.size ≤ 4294967280) (v0 : Int) (h0 : Lib.atoiAll p0.data.toList = .ok v0) (v1 : Int) (h1 : Lib.atoiAll p1.data.toList = .ok v1) (v2 : Int) (h2 : Lib.atoiAll p2.data.toList = .ok v2) (v : vld v0 v1 v2) (hq : (dtext v0 v1 v2 == s.toList) = true) :
    Calls Tryz.prog 27 #[.string s] w (Parsed w.heap.size w v0 v1 v2 none) := by
  have H := Lib.hid h; clear h; have n_ := Lib.hid h0; clear h0; have h0 := n_; clear n_; have n_ := Lib.hid h1; clear h1; have h1 := n_; clear n_; have n_ := Lib.hid h2; clear h2; have h2 := n_; clear n_; have hT := Aside0.mk (show civil_Text.f 2 v0 v1 v2 = some (⟨(dtext v0 v1 v2).toArray⟩, none) by rw [CivP.text 2 _ _ _ (by omega), if_pos v]); clear v; have HB := Aside0.mk (Below.refl w.heap.size w); have HL := Aside0.mk hl; clear hl
  go_enter Tryz.func27, Tryz.ntmps27
  go_wp2_with (first | (go_at_call 96; (refine (split_3 s hs p0 p1 p2 H.out _ (Laid.below HL.out bl_)).mono ?_); rintro e w1 ⟨g, rfl, hg, hc, hb⟩; have BG := Aside0.mk hc; have BK := Aside0.mk (blk_below (blk_new w _) hb); replace HB := Aside0.mk (below_step (below_alloc HB.out _) hb); clear hb hc hg; have z0 : w1.cell? ⟨w.heap.size, 0, none⟩ = some (.int .i64 0) := (blk_cell BK.out 0).trans rfl; have z1 : w1.cell? ⟨w.heap.size, 1, none⟩ = some (.int .i64 0) := (blk_cell BK.out 1).trans rfl; have z2 : w1.cell? ⟨w.heap.size, 2, none⟩ = some (.int .i64 0) := (blk_cell BK.out 2).trans rfl; have f0 := blk_frozen BK.out 0; have f1 := blk_frozen BK.out 1; have f2 := blk_frozen BK.out 2) | ((with_reducible refine gate_dst (N := 5) rfl ?_); refine be_ (N := 5) (cs := #[.int .i64 0, .int .i64 0, .int .i64 0]) (t := 164) ?_; intro ga hga w2 hbox hb2; have GA := Aside0.mk (show w.heap.size ≤ ga by rw [hga]; exact below_size HB.out); have n0_ := Aside0.mk (below_step HB.out hb2); have n1_ := Aside0.mk (blk_below BK.out hb2); have n2_ := Aside0.mk (blk_below BG.out hb2); have BA := Aside0.mk hbox; clear HB BK BG z0 z1 z2 f0 f1 f2; have HB := n0_; have BK := n1_; have BG := n2_; clear n0_ n1_ n2_; clear hb2 hbox hga; have NKA := Aside0.mk (blk_ne BK.out BA.out (by decide)); have NGA := Aside0.mk (blk_ne BG.out BA.out (by decide)); have y0 : w2.cell? ⟨g, 0, none⟩ = some (.string p0) := (blk_cell BG.out 0).trans rfl; have y1 : w2.cell? ⟨g, 1, none⟩ = some (.string p1) := (blk_cell BG.out 1).trans rfl; have y2 : w2.cell? ⟨g, 2, none⟩ = some (.string p2) := (blk_cell BG.out 2).trans rfl; have x0 : w2.cell? ⟨ga, 0, none⟩ = some (.int .i64 0) := (blk_cell BA.out 0).trans rfl; have x1 : w2.cell? ⟨ga, 1, none⟩ = some (.int .i64 0) := (blk_cell BA.out 1).trans rfl; have x2 : w2.cell? ⟨ga, 2, none⟩ = some (.int .i64 0) := (blk_cell BA.out 2).trans rfl; have q0 := blk_frozen BA.out 0; have q1 := blk_frozen BA.out 1; have q2 := blk_frozen BA.out 2))
  refine wp_loop_rounds 4 ?_
  rw [rounds_succ]
  go_wp2_with (first | (go_at_call 97; (with_reducible refine (atoi_ok p0 h0s v0 h0.out _).mono ?_); rintro e w3 ⟨rfl, hb⟩; have n0_ := Aside0.mk (below_step HB.out hb); have n1_ := Aside0.mk (blk_below BK.out hb); have n2_ := Aside0.mk (blk_below BG.out hb); have n3_ := Aside0.mk (blk_below BA.out hb); clear HB BK BG BA y0 y1 y2 x0 x1 x2 q0 q1 q2; have HB := n0_; have BK := n1_; have BG := n2_; have BA := n3_; clear n0_ n1_ n2_ n3_; clear hb; have y0 : w3.cell? ⟨g, 0, none⟩ = some (.string p0) := (blk_cell BG.out 0).trans rfl; have y1 : w3.cell? ⟨g, 1, none⟩ = some (.string p1) := (blk_cell BG.out 1).trans rfl; have y2 : w3.cell? ⟨g, 2, none⟩ = some (.string p2) := (blk_cell BG.out 2).trans rfl; have x0 : w3.cell? ⟨ga, 0, none⟩ = some (.int .i64 0) := (blk_cell BA.out 0).trans rfl; have x1 : w3.cell? ⟨ga, 1, none⟩ = some (.int .i64 0) := (blk_cell BA.out 1).trans rfl; have x2 : w3.cell? ⟨ga, 2, none⟩ = some (.int .i64 0) := (blk_cell BA.out 2).trans rfl; have q0 := blk_frozen BA.out 0; have q1 := blk_frozen BA.out 1; have q2 := blk_frozen BA.out 2; have z0 : w3.cell? ⟨w.heap.size, 0, none⟩ = some (.int .i64 0) := (blk_cell BK.out 0).trans rfl; have z1 : w3.cell? ⟨w.heap.size, 1, none⟩ = some (.int .i64 0) := (blk_cell BK.out 1).trans rfl; have z2 : w3.cell? ⟨w.heap.size, 2, none⟩ = some (.int .i64 0) := (blk_cell BK.out 2).trans rfl; have f0 := blk_frozen BK.out 0; have f1 := blk_frozen BK.out 1; have f2 := blk_frozen BK.out 2))
  rw [rounds_succ]
  go_wp2_with (first | (go_at_call 97; (with_reducible refine (atoi_ok p1 h1s v1 h1.out _).mono ?_); rintro e w4 ⟨rfl, hb⟩; have n0_ := Aside0.mk (below_step (below_set HB.out GA.out) hb); have n1_ := Aside0.mk (blk_below (blk_far BK.out NKA.out _) hb); have n2_ := Aside0.mk (blk_below (blk_far BG.out NGA.out _) hb); have n3_ := Aside0.mk (blk_below (blk_put (cs' := #[.int .i64 v0, .int .i64 0, .int .i64 0]) BA.out 0 (.int .i64 v0) rfl) hb); clear HB BK BG BA y0 y1 y2 x0 x1 x2 q0 q1 q2; have HB := n0_; have BK := n1_; have BG := n2_; have BA := n3_; clear n0_ n1_ n2_ n3_; clear hb; have y0 : w4.cell? ⟨g, 0, none⟩ = some (.string p0) := (blk_cell BG.out 0).trans rfl; have y1 : w4.cell? ⟨g, 1, none⟩ = some (.string p1) := (blk_cell BG.out 1).trans rfl; have y2 : w4.cell? ⟨g, 2, none⟩ = some (.string p2) := (blk_cell BG.out 2).trans rfl; have x0 : w4.cell? ⟨ga, 0, none⟩ = some (.int .i64 v0) := (blk_cell BA.out 0).trans rfl; have x1 : w4.cell? ⟨ga, 1, none⟩ = some (.int .i64 0) := (blk_cell BA.out 1).trans rfl; have x2 : w4.cell? ⟨ga, 2, none⟩ = some (.int .i64 0) := (blk_cell BA.out 2).trans rfl; have q0 := blk_frozen BA.out 0; have q1 := blk_frozen BA.out 1; have q2 := blk_frozen BA.out 2; have z0 : w4.cell? ⟨w.heap.size, 0, none⟩ = some (.int .i64 0) := (blk_cell BK.out 0).trans rfl; have z1 : w4.cell? ⟨w.heap.size, 1, none⟩ = some (.int .i64 0) := (blk_cell BK.out 1).trans rfl; have z2 : w4.cell? ⟨w.heap.size, 2, none⟩ = some (.int .i64 0) := (blk_cell BK.out 2).trans rfl; have f0 := blk_frozen BK.out 0; have f1 := blk_frozen BK.out 1; have f2 := blk_frozen BK.out 2))
  rw [rounds_succ]
  go_wp2_with (first | (go_at_call 97; (with_reducible refine (atoi_ok p2 h2s v2 h2.out _).mono ?_); rintro e w5 ⟨rfl, hb⟩; have n0_ := Aside0.mk (below_step (below_set HB.out GA.out) hb); have n1_ := Aside0.mk (blk_below (blk_far BK.out NKA.out _) hb); have n2_ := Aside0.mk (blk_below (blk_far BG.out NGA.out _) hb); have n3_ := Aside0.mk (blk_below (blk_put (cs' := #[.int .i64 v0, .int .i64 v1, .int .i64 0]) BA.out 1 (.int .i64 v1) rfl) hb); clear HB BK BG BA y0 y1 y2 x0 x1 x2 q0 q1 q2; have HB := n0_; have BK := n1_; have BG := n2_; have BA := n3_; clear n0_ n1_ n2_ n3_; clear hb; have y0 : w5.cell? ⟨g, 0, none⟩ = some (.string p0) := (blk_cell BG.out 0).trans rfl; have y1 : w5.cell? ⟨g, 1, none⟩ = some (.string p1) := (blk_cell BG.out 1).trans rfl; have y2 : w5.cell? ⟨g, 2, none⟩ = some (.string p2) := (blk_cell BG.out 2).trans rfl; have x0 : w5.cell? ⟨ga, 0, none⟩ = some (.int .i64 v0) := (blk_cell BA.out 0).trans rfl; have x1 : w5.cell? ⟨ga, 1, none⟩ = some (.int .i64 v1) := (blk_cell BA.out 1).trans rfl; have x2 : w5.cell? ⟨ga, 2, none⟩ = some (.int .i64 0) := (blk_cell BA.out 2).trans rfl; have q0 := blk_frozen BA.out 0; have q1 := blk_frozen BA.out 1; have q2 := blk_frozen BA.out 2; have z0 : w5.cell? ⟨w.heap.size, 0, none⟩ = some (.int .i64 0) := (blk_cell BK.out 0).trans rfl; have z1 : w5.cell? ⟨w.heap.size, 1, none⟩ = some (.int .i64 0) := (blk_cell BK.out 1).trans rfl; have z2 : w5.cell? ⟨w.heap.size, 2, none⟩ = some (.int .i64 0) := (blk_cell BK.out 2).trans rfl; have f0 := blk_frozen BK.out 0; have f1 := blk_frozen BK.out 1; have f2 := blk_frozen BK.out 2))
  rw [rounds_succ]
  go_wp2_with (first | (go_at_call 26; (with_reducible refine (civil_Text.calls 2 v0 v1 v2 ⟨(dtext v0 v1 v2).toArray⟩ none _ (Laid.below HL.out bl_) hT.out).mono ?_); rintro e w6 ⟨rfl, hb⟩; (try simp only [errW_none, errW_some]); have BD := Aside0.mk (show w6.heap[w5.heap.size]? = some (.cells #[.int .i64 v0, .int .i64 v1, .int .i64 v2] 26 (0, 0)) from by have q_ := blk_below (blk_new _ _) hb; simpa [World.setCell] using q_); replace BK := Aside0.mk (blk_below (blk_alloc (blk_far (p := ⟨ga, 2, none⟩) BK.out NKA.out (.int .i64 v2)) _) hb); replace HB := Aside0.mk (below_step (by repeat (first | (with_reducible first | exact HB.out | apply below_alloc | refine below_set ?_ GA.out) | exact HB.out)) hb); clear hb; have z0 : w6.cell? ⟨w.heap.size, 0, none⟩ = some (.int .i64 0) := (blk_cell BK.out 0).trans rfl; have z1 : w6.cell? ⟨w.heap.size, 1, none⟩ = some (.int .i64 0) := (blk_cell BK.out 1).trans rfl; have z2 : w6.cell? ⟨w.heap.size, 2, none⟩ = some (.int .i64 0) := (blk_cell BK.out 2).trans rfl; have f0 := blk_frozen BK.out 0; have f1 := blk_frozen BK.out 1; have f2 := blk_frozen BK.out 2; have d0 : w6.cell? ⟨w5.heap.size, 0, none⟩ = some (.int .i64 v0) := (blk_cell BD.out 0).trans rfl; have d1 : w6.cell? ⟨w5.heap.size, 1, none⟩ = some (.int .i64 v1) := (blk_cell BD.out 1).trans rfl; have d2 : w6.cell? ⟨w5.heap.size, 2, none⟩ = some (.int .i64 v2) := (blk_cell BD.out 2).trans rfl; have r0 := blk_frozen BD.out 0; have r1 := blk_frozen BD.out 1; have r2 := blk_frozen BD.out 2))
  refine bodyPost_ret (results_ct rfl _ _ w.heap.size 26 #[.int .i64 v0, .int .i64 v1, .int .i64 v2] (0, 0) _ rfl (by refine blk_put (cs := #[.int .i64 v0, .int .i64 v1, .int .i64 0]) ?_ 2 _ rfl; refine blk_put (cs := #[.int .i64 v0, .int .i64 0, .int .i64 0]) ?_ 1 _ rfl; refine blk_put (cs := #[.int .i64 0, .int .i64 0, .int .i64 0]) ?_ 0 _ rfl; exact BK.out) Tryz.underlying26 rfl (by kernel_rfl)) rfl ?_
  exact ⟨rfl, by repeat (first | exact HB.out | refine below_set ?_ (Nat.le_refl _))⟩
theorem extract_le (s : ByteArray) (a b : Nat) : (s.extract a b).size ≤ s.size := by rw [ByteArray.size_extract]; omega
theorem splitB_size (sep : ByteArray) : ∀ (k : Nat) (s p : ByteArray), p ∈ Lib.splitB sep 0 k s → p.size ≤ s.size
  | 0, s, p, h => by simp [Lib.splitB] at h; rw [h]; exact Nat.le_refl _
  | k + 1, s, p, h => by
    unfold Lib.splitB at h
    split at h
    · simp at h; rw [h]; exact Nat.le_refl _
    · rcases List.mem_cons.1 h with rfl | h
      · exact extract_le _ _ _
      · exact Nat.le_trans (splitB_size sep k _ p h) (extract_le _ _ _)
theorem civil_Parse.calls (a0 : ByteArray) (r1 r2 r3 : Int) (r4 : Option Int) (w : World) (hl_ : Laid w) (h : civil_Parse.f a0 = some (r1, r2, r3, r4)) :
    Calls Tryz.prog 27 #[.string a0] w fun e w' => e = .returned (.tuple #[.agg #[.int .i64 r1, .int .i64 r2, .int .i64 r3], errW r4]) ∧ Below w.heap.size w w' := by
  unfold civil_Parse.f at h
  split at h
  rotate_left
  · cases h
  rename_i hs
  obtain ⟨l, hsp⟩ : ∃ l, Lib.splitB ⟨#[45]⟩ 0 (Lib.countB a0 ⟨#[45]⟩) a0 = l := ⟨_, rfl⟩
  have hC := splitB_eq 45 a0; rw [hsp] at hC
  have none_of : dateOf a0.data.toList = none → some (0, 0, 0, some 3) = some (r1, r2, r3, r4) := fun e => by rw [e] at h; exact h
  by_cases hn : l.length = 3
  rotate_left
  · have hd : dateOf a0.data.toList = none := by
      cases hd : dateOf a0.data.toList with
      | none => rfl
      | some t =>
        obtain ⟨y, m, d⟩ := t; obtain ⟨_, _, p0, p1, p2, e, _⟩ := dateOf_some hd; rw [e] at hC; have := congrArg List.length hC
        simp at this; omega
    have e := none_of hd; simp only [Option.some.injEq, Prod.mk.injEq] at e; obtain ⟨rfl, rfl, rfl, rfl⟩ := e
    exact parse_len a0 w hl_ hs l hsp (by simp; omega)
  · match l, hn with
    | [p0, p1, p2], _ =>
      have hz : ∀ p ∈ [p0, p1, p2], p.size ≤ 4294967280 := fun p hp => by
        have := splitB_size ⟨#[45]⟩ _ a0 p (by rw [hsp]; exact hp)
        omega
      have z0 := hz p0 (by simp); have z1 := hz p1 (by simp); have z2 := hz p2 (by simp); simp only [List.map_cons, List.map_nil] at hC
      have bad : (∀ y m d, ¬ (Lib.atoiAll p0.data.toList = .ok y ∧ Lib.atoiAll p1.data.toList = .ok m ∧ Lib.atoiAll p2.data.toList = .ok d)) → r1 = 0 ∧ r2 = 0 ∧ r3 = 0 ∧ r4 = some 3 := by
        intro hno
        have hd : dateOf a0.data.toList = none := by
          cases hd : dateOf a0.data.toList with
          | none => rfl
          | some t =>
            obtain ⟨y, m, d⟩ := t; obtain ⟨_, _, q0, q1, q2, e, a1, a2, a3⟩ := dateOf_some hd; rw [e] at hC; simp only [List.cons.injEq, and_true] at hC; obtain ⟨rfl, rfl, rfl⟩ := hC
            exact absurd ⟨a1, a2, a3⟩ (hno y m d)
        have e := none_of hd; simp only [Option.some.injEq, Prod.mk.injEq] at e; obtain ⟨rfl, rfl, rfl, rfl⟩ := e
        exact ⟨rfl, rfl, rfl, rfl⟩
      by_cases c0 : ∃ v, Lib.atoiAll p0.data.toList = .ok v
      rotate_left
      · obtain ⟨rfl, rfl, rfl, rfl⟩ := bad (fun y m d e => c0 ⟨y, e.1⟩)
        exact parse_bad0 a0 w hl_ hs p0 p1 p2 hsp z0 z1 z2 (fun v e => c0 ⟨v, e⟩)
      obtain ⟨v0, h0⟩ := c0
      by_cases c1 : ∃ v, Lib.atoiAll p1.data.toList = .ok v
      rotate_left
      · obtain ⟨rfl, rfl, rfl, rfl⟩ := bad (fun y m d e => c1 ⟨m, e.2.1⟩)
        exact parse_bad1 a0 w hl_ hs p0 p1 p2 hsp z0 z1 z2 v0 h0 (fun v e => c1 ⟨v, e⟩)
      obtain ⟨v1, h1⟩ := c1
      by_cases c2 : ∃ v, Lib.atoiAll p2.data.toList = .ok v
      rotate_left
      · obtain ⟨rfl, rfl, rfl, rfl⟩ := bad (fun y m d e => c2 ⟨d, e.2.2⟩)
        exact parse_bad2 a0 w hl_ hs p0 p1 p2 hsp z0 z1 z2 v0 h0 v1 h1 (fun v e => c2 ⟨v, e⟩)
      obtain ⟨v2, h2⟩ := c2; have hd := dateOf_iff hC.symm h0 h1 h2; have hS : a0.toList = a0.data.toList := ByteArray.toList_eq a0
      by_cases v : vld v0 v1 v2
      rotate_left
      · rw [if_neg (fun c => v c.1)] at hd; have e := none_of hd; simp only [Option.some.injEq, Prod.mk.injEq] at e; obtain ⟨rfl, rfl, rfl, rfl⟩ := e
        exact parse_inv a0 w hl_ hs p0 p1 p2 hsp z0 z1 z2 v0 h0 v1 h1 v2 h2 v
      by_cases q : dtext v0 v1 v2 = a0.data.toList
      · rw [if_pos ⟨v, q⟩] at hd; rw [hd] at h; simp only [Option.some.injEq, Prod.mk.injEq] at h; obtain ⟨rfl, rfl, rfl, rfl⟩ := h
        exact parse_eq a0 w hl_ hs p0 p1 p2 hsp z0 z1 z2 v0 h0 v1 h1 v2 h2 v (by rw [hS, q]; simp)
      · rw [if_neg (fun c => q c.2)] at hd; have e := none_of hd; simp only [Option.some.injEq, Prod.mk.injEq] at e; obtain ⟨rfl, rfl, rfl, rfl⟩ := e
        exact parse_ne a0 w hl_ hs p0 p1 p2 hsp z0 z1 z2 v0 h0 v1 h1 v2 h2 v (by rw [hS]; simpa using q)
end Go.Proofs.YtfjifhkgifefeaaGreatDoor.Giv
end

section
namespace Go.Proofs.YtfjifhkgifefeaaGreatDoor.PA
open Giv Go.RowKit YtfjifhkgifefeaaGreatDoorW.PrintWords YtfjifhkgifefeaaGreatDoorW.PrintLast YtfjifhkgifefeaaGreatDoorW.PrintMore
attribute [local go_sem] max2_int min2_int max_two min_two max_three min_three max_four min_four
set_option linter.unusedVariables false
set_option linter.unusedSimpArgs false
def daytime_Parse.f (k : Nat) (a0 : ByteArray) : Option (Int × Int × Int × Option Int) := if (a0.size : Int) = 29 then (if 0 ≤ 10 then (if 10 ≤ (a0.size : Int) then ((civil_Parse.f (a0.extract 0 10)).bind fun bt272 => (if bt272.2.2.2.isNone = true then ((civil_Days.f k bt272.1 bt272.2.1 bt272.2.2.1).bind fun bt278 => (if bt278.2.isNone = true then (if 11 ≤ 13 then (if 13 ≤ (a0.size : Int) then ((daytime_number.f (a0.extract 11 13)).bind fun t281 => (if 14 ≤ 16 then (if 16 ≤ (a0.size : Int) then ((daytime_number.f (a0.extract 14 16)).bind fun t282 => (if 17 ≤ 19 then (if 19 ≤ (a0.size : Int) then ((daytime_number.f (a0.extract 17 19)).bind fun t283 => ((daytime_Seconds.f t281 t282 t283).bind fun bt284 => (if bt284.2.isNone = true then (if 20 ≤ (a0.size : Int) then ((daytime_number.f (a0.extract 20 a0.size)).bind fun t287 => ((daytime_Stamp.f k bt278.1 bt284.1 t287).bind fun bt288 => (if bt288.2.isNone = true then (if bt288.1.toList = a0.toList then (some (bt278.1, bt284.1, t287, none)) else (some (0, 0, 0, some 3))) else (some (0, 0, 0, some 3))))) else (none)) else (some (0, 0, 0, some 3))))) else (none)) else (none))) else (none)) else (none))) else (none)) else (none)) else (some (0, 0, 0, some 3)))) else (some (0, 0, 0, some (bt272.2.2.2.getD 0))))) else (none)) else (none)) else (some (0, 0, 0, some 3))
def daytime_Parse.T9 : Bool × List (List Nat × List Nat) := (true, [([], []), ([0], [0]), ([1], [1]), ([], []), ([3], [3]), ([4, 2], [4]), ([], []), ([6], [6]), ([7, 5], [7]), ([2, 5, 8], [2, 5, 8]), ([9, 8], [9]), ([10], [10]), ([11], [11]), ([11], [11]), ([12, 10, 0, 1, 2, 3, 4, 5, 6, 7, 8, 9, 10, 11, 12], [12]), ([13, 14, 0, 1, 2, 3, 4, 5, 6, 7, 8, 9, 10, 11, 12, 13, 14], [13])])
def daytime_Parse.B9 : List Nat := [0, 1, 3, 0, 8, 31, 0, 64, 255, 511, 1023, 2047, 4095, 4095, 8191, 32767]
theorem daytime_Parse.tab9 : rtab .any (opsOf Tryz.f41 9) = daytime_Parse.T9 := by kernel_rfl
theorem daytime_Parse.bits9 : waitsOk daytime_Parse.T9.2 daytime_Parse.B9 = true := by kernel_rfl
theorem daytime_Parse.calls (k : Nat) (a0 : ByteArray) (r1 : Int) (r2 : Int) (r3 : Int) (r4 : Option Int) (w : World) (hl_ : Laid w) (h : daytime_Parse.f k a0 = some (r1, r2, r3, r4)) :
  Calls Tryz.prog 41 #[.string a0] w fun e w' => e = .returned (.tuple #[.int .i64 r1, .int .i64 r2, .int .i64 r3, errW r4]) ∧ Below w.heap.size w w' := by
 have hu26 := Tryz.underlying26; have hu50 := Tryz.underlying50; have hu28 := Tryz.underlying28; have hu157 := Tryz.underlying157; have HL := Aside0.mk hl_; clear hl_; have HB := Aside0.mk (Below.refl w.heap.size w); have H := h; clear h
 unfold daytime_Parse.f at H
 by_cases c2 : (a0.size : Int) = 29
 ·rw [if_pos c2] at H; have c2b0 : ((a0.size : Int) == 29) = true := beq_iff_eq.mpr c2; have c2b1 : ((a0.size : Int) != 29) = false := bne_eq_false_iff_eq.mpr c2; clear c2
  by_cases c3 : 0 ≤ 10
  ·rw [if_pos c3] at H; have c3b0 := eq_true c3; have c3b1 : decide (0 ≤ 10) = true := decide_eq_true c3; clear c3
   by_cases c4 : 10 ≤ (a0.size : Int)
   ·rw [if_pos c4] at H; have c4b0 := eq_true c4; have c4b1 : decide (10 ≤ (a0.size : Int)) = true := decide_eq_true c4; clear c4; replace H := Option.bind_eq_some_iff.mp H; obtain ⟨⟨t272, t273, t274, t275⟩, A50, H⟩ := H; (try dsimp only at H); have A5 := Aside0.mk A50; clear A50
    rcases t275 with _ | q277
    ·rw [if_pos (show (none : Option Int).isNone = true by rfl)] at H
     try dsimp only [Option.getD_some] at H
     try simp only [errW_none, errW_some]
     replace H := Option.bind_eq_some_iff.mp H; obtain ⟨⟨t278, t279⟩, A60, H⟩ := H; (try dsimp only at H); have A6 := Aside0.mk A60; clear A60
     rcases t279 with _ | q280
     ·rw [if_pos (show (none : Option Int).isNone = true by rfl)] at H
      try dsimp only [Option.getD_some] at H
      try simp only [errW_none, errW_some]
      by_cases c7 : 11 ≤ 13
      ·rw [if_pos c7] at H; have c7b0 := eq_true c7; have c7b1 : decide (11 ≤ 13) = true := decide_eq_true c7; clear c7
       by_cases c8 : 13 ≤ (a0.size : Int)
       ·rw [if_pos c8] at H; have c8b0 := eq_true c8; have c8b1 : decide (13 ≤ (a0.size : Int)) = true := decide_eq_true c8; clear c8; replace H := Option.bind_eq_some_iff.mp H; obtain ⟨t281, A90, H⟩ := H; (try dsimp only at H); have A9 := Aside0.mk A90; clear A90
        by_cases c10 : 14 ≤ 16
        ·rw [if_pos c10] at H; have c10b0 := eq_true c10; have c10b1 : decide (14 ≤ 16) = true := decide_eq_true c10; clear c10
         by_cases c11 : 16 ≤ (a0.size : Int)
         ·rw [if_pos c11] at H; have c11b0 := eq_true c11; have c11b1 : decide (16 ≤ (a0.size : Int)) = true := decide_eq_true c11; clear c11; replace H := Option.bind_eq_some_iff.mp H; obtain ⟨t282, A120, H⟩ := H; (try dsimp only at H); have A12 := Aside0.mk A120; clear A120
          by_cases c13 : 17 ≤ 19
          ·rw [if_pos c13] at H; have c13b0 := eq_true c13; have c13b1 : decide (17 ≤ 19) = true := decide_eq_true c13; clear c13
           by_cases c14 : 19 ≤ (a0.size : Int)
           ·rw [if_pos c14] at H; have c14b0 := eq_true c14; have c14b1 : decide (19 ≤ (a0.size : Int)) = true := decide_eq_true c14; clear c14; replace H := Option.bind_eq_some_iff.mp H; obtain ⟨t283, A150, H⟩ := H; (try dsimp only at H); have A15 := Aside0.mk A150; clear A150; replace H := Option.bind_eq_some_iff.mp H; obtain ⟨⟨t284, t285⟩, A160, H⟩ := H; (try dsimp only at H); have A16 := Aside0.mk A160; clear A160
            rcases t285 with _ | q286
            ·rw [if_pos (show (none : Option Int).isNone = true by rfl)] at H
             try dsimp only [Option.getD_some] at H
             try simp only [errW_none, errW_some]
             by_cases c17 : 20 ≤ (a0.size : Int)
             ·rw [if_pos c17] at H; have c17b0 := eq_true c17; have c17b1 : decide (20 ≤ (a0.size : Int)) = true := decide_eq_true c17; clear c17; replace H := Option.bind_eq_some_iff.mp H; obtain ⟨t287, A180, H⟩ := H; (try dsimp only at H); have A18 := Aside0.mk A180; clear A180; replace H := Option.bind_eq_some_iff.mp H; obtain ⟨⟨t288, t289⟩, A190, H⟩ := H; (try dsimp only at H); have A19 := Aside0.mk A190; clear A190
              rcases t289 with _ | q290
              ·rw [if_pos (show (none : Option Int).isNone = true by rfl)] at H
               try dsimp only [Option.getD_some] at H
               try simp only [errW_none, errW_some]
               by_cases c20 : t288.toList = a0.toList
               ·rw [if_pos c20] at H; have c20b0 : (t288.toList == a0.toList) = true := beq_iff_eq.mpr c20; have c20b1 : (t288.toList != a0.toList) = false := bne_eq_false_iff_eq.mpr c20; clear c20; simp only [Option.some.injEq, Prod.mk.injEq] at H; obtain ⟨rfl, rfl, rfl, rfl⟩ := H
                go_enter Tryz.func41, Tryz.ntmps41
                try go_wp2_with (first | ((with_reducible refine gate_callee (f := 27) rfl ?_); refine gd_ (some 20) Tryz.func27 (civil_Parse.calls (a0.extract 0 10) t272 t273 t274 none _ lb_ A5.out) ?_; intro w21 hb; replace HB := bs_ hb; (try clear hb); (try simp only [errW_none, errW_some])) | ((with_reducible refine gate_dst (N := 6) rfl ?_); refine be_ (N := 6) (cs := #[.int .i64 0, .int .i64 0, .int .i64 0]) (t := 26) ?_; intro gb276 hg w22 hbox hb; have BK276 := Aside0.mk hbox; have GW276 := Aside0.mk (sz_ hg : w.heap.size ≤ gb276); have GE276 := GW276; replace HB := bs_ hb; clear hb hbox hg; have hcz23_0 : w22.cell? ⟨gb276, 0, none⟩ = some (.int .i64 0) := (blk_cell BK276.out 0).trans rfl; have hcz23_1 : w22.cell? ⟨gb276, 1, none⟩ = some (.int .i64 0) := (blk_cell BK276.out 1).trans rfl; have hcz23_2 : w22.cell? ⟨gb276, 2, none⟩ = some (.int .i64 0) := (blk_cell BK276.out 2).trans rfl; have hfz23_0 := blk_frozen BK276.out 0; have hfz23_1 := blk_frozen BK276.out 1; have hfz23_2 := blk_frozen BK276.out 2) | ((with_reducible refine gate_callee (f := 16) rfl ?_); refine gd_ (some 28) Tryz.func16 (civil_Days.calls k t272 t273 t274 t278 none _ A6.out) ?_; intro w24 hb; replace BK276 := Aside0.mk (blk_below (g := gb276) (o := .cells #[.int .i64 t272, .int .i64 t273, .int .i64 t274] 26 (0, 0)) (by (with_reducible repeat first | apply blk_drewN | apply blk_drew | apply blk_alloc); refine blk_put (cs := #[.int .i64 t272, .int .i64 t273, .int .i64 0]) ?_ 2 _ rfl; (with_reducible repeat first | apply blk_drewN | apply blk_drew | apply blk_alloc); refine blk_put (cs := #[.int .i64 t272, .int .i64 0, .int .i64 0]) ?_ 1 _ rfl; (with_reducible repeat first | apply blk_drewN | apply blk_drew | apply blk_alloc); refine blk_put (cs := #[.int .i64 0, .int .i64 0, .int .i64 0]) ?_ 0 _ rfl; (with_reducible repeat first | apply blk_drewN | apply blk_drew | apply blk_alloc); exact BK276.out) hb); replace HB := bs_ hb; (try clear hb); (try simp only [errW_none, errW_some])))
                have n0_ := Aside0.mk (blk_drew BK276.out); have n1_ := Aside0.mk (below_drew1 HB.out); clear BK276; clear HB; have BK276 := n0_; have HB := n1_; clear n0_ n1_
                refine start_ (n := 16) (S := fun w' => True) (ds := []) (bq 16 0) (by kernel_rfl) rfl (by kernel_rfl) trivial (fun hHeld => ?_); refine with_tabW daytime_Parse.tab9 daytime_Parse.bits9 (fun HT_ HW_ => ?_)
                generalize w24.drew = w25 at BK276 HB hHeld ⊢
                refine pa 0 (bq 16 1) (some 35) ?_; refine pa 1 (bq 16 2) (some 36) ?_; refine pa 3 (bs 16 11) (some 38) ?_; refine pa 4 (bs 16 27) (some 39) ?_; refine pa 6 (bs 16 91) (some 41) ?_; refine pa 7 (bs 16 219) (some 42) ?_
                refine one_ (i := 2) (N := some 37) (bs 16 223) rfl rfl (one_of HT_.out (by kernel_rfl)) (by decide) (fun K hK => ?_)
                refine goes_ Tryz.func101 (by kernel_rfl) rfl #[.string (a0.extract 11 13)] (by rfl) rfl rfl ev_ ?_
                with_reducible refine (daytime_number.calls (a0.extract 11 13) t281 _ lb_ A9.out).mono ?_
                rintro e w26 ⟨rfl, hb⟩
                refine ⟨_, rfl, ?_⟩
                have n0_ := Aside0.mk (blk_below (g := gb276) (o := .cells #[.int .i64 t272, .int .i64 t273, .int .i64 t274] 26 (0, 0)) bk_ hb); have n1_ := bs_ hb; clear BK276; clear HB; have BK276 := n0_; have HB := n1_; clear n0_ n1_
                (try clear hb)
                (try clear hb2)
                (try clear hk)
                (try clear hi)
                refine hK.out _ _ trivial (fun hHeld => ?_)
                clear hK K
                refine norm_ (a' := ?_) ?_ ?_
                rotate_left
                ·show Act.put _ (some 37) _ = _
                 simp only [Act.put, List.setIfInBounds_toArray, List.set_cons_zero, List.set_cons_succ, i64_w, i32_w]
                 rfl
                refine one_ (i := 5) (N := some 40) (bq 16 8) rfl rfl (one_of HT_.out (by kernel_rfl)) (by decide) (fun K hK => ?_)
                refine goes_ Tryz.func101 (by kernel_rfl) rfl #[.string (a0.extract 14 16)] (by rfl) rfl rfl ev_ ?_
                with_reducible refine (daytime_number.calls (a0.extract 14 16) t282 _ lb_ A12.out).mono ?_
                rintro e w27 ⟨rfl, hb⟩
                refine ⟨_, rfl, ?_⟩
                have n0_ := Aside0.mk (blk_below (g := gb276) (o := .cells #[.int .i64 t272, .int .i64 t273, .int .i64 t274] 26 (0, 0)) bk_ hb); have n1_ := bs_ hb; clear BK276; clear HB; have BK276 := n0_; have HB := n1_; clear n0_ n1_
                (try clear hb)
                (try clear hb2)
                (try clear hk)
                (try clear hi)
                refine hK.out _ _ trivial (fun hHeld => ?_)
                clear hK K
                refine norm_ (a' := ?_) ?_ ?_
                rotate_left
                ·show Act.put _ (some 40) _ = _
                 simp only [Act.put, List.setIfInBounds_toArray, List.set_cons_zero, List.set_cons_succ, i64_w, i32_w]
                 rfl
                refine one_ (i := 8) (N := some 43) (bq 16 9) rfl rfl (one_of HT_.out (by kernel_rfl)) (by decide) (fun K hK => ?_)
                refine goes_ Tryz.func101 (by kernel_rfl) rfl #[.string (a0.extract 17 19)] (by rfl) rfl rfl ev_ ?_
                with_reducible refine (daytime_number.calls (a0.extract 17 19) t283 _ lb_ A15.out).mono ?_
                rintro e w28 ⟨rfl, hb⟩
                refine ⟨_, rfl, ?_⟩
                have n0_ := Aside0.mk (blk_below (g := gb276) (o := .cells #[.int .i64 t272, .int .i64 t273, .int .i64 t274] 26 (0, 0)) bk_ hb); have n1_ := bs_ hb; clear BK276; clear HB; have BK276 := n0_; have HB := n1_; clear n0_ n1_
                (try clear hb)
                (try clear hb2)
                (try clear hk)
                (try clear hi)
                refine hK.out _ _ trivial (fun hHeld => ?_)
                clear hK K
                refine norm_ (a' := ?_) ?_ ?_
                rotate_left
                ·show Act.put _ (some 43) _ = _
                 simp only [Act.put, List.setIfInBounds_toArray, List.set_cons_zero, List.set_cons_succ, i64_w, i32_w]
                 rfl
                refine pa 9 (bq 16 10) (some 44) ?_
                refine one_ (i := 10) (N := some 45) (bq 16 11) rfl rfl (one_of HT_.out (by kernel_rfl)) (by decide) (fun K hK => ?_)
                refine goes_ Tryz.func32 (by kernel_rfl) rfl #[.agg #[.int .i64 t281, .int .i64 t282, .int .i64 t283]] (by rfl) rfl rfl ev_ ?_
                with_reducible refine (daytime_Seconds.calls t281 t282 t283 t284 none _ A16.out).mono ?_
                rintro e w29 ⟨rfl, hb⟩
                refine ⟨_, rfl, ?_⟩
                have n0_ := Aside0.mk (blk_below (g := gb276) (o := .cells #[.int .i64 t272, .int .i64 t273, .int .i64 t274] 26 (0, 0)) bk_ hb); have n1_ := bs_ hb; clear BK276; clear HB; have BK276 := n0_; have HB := n1_; clear n0_ n1_
                (try clear hb)
                (try clear hb2)
                (try clear hk)
                (try clear hi)
                (try simp only [errW_none, errW_some])
                refine hK.out _ _ trivial (fun hHeld => ?_)
                clear hK K
                refine norm_ (a' := ?_) ?_ ?_
                rotate_left
                ·show Act.put _ (some 45) _ = _
                 simp only [Act.put, List.setIfInBounds_toArray, List.set_cons_zero, List.set_cons_succ, i64_w, i32_w]
                 rfl
                refine pa 11 (bq 16 12) (some 34) ?_; refine pa 12 (bq 16 13) (some 46) ?_; refine pa 13 (bq 16 14) (some 47) ?_; refine pa 14 (bq 16 15) (some 9) ?_; refine pa 15 (bq 16 16) (some 7) ?_
                refine done_ (done_of HT_.out (by kernel_rfl)) ?_
                try go_wp2_with (first | ((with_reducible refine gate_callee (f := 101) rfl ?_); refine gd_ (some 53) Tryz.func101 (daytime_number.calls (a0.extract 20 a0.size) t287 _ lb_ A18.out) ?_; intro w30 hb; replace BK276 := bb_ BK276.out hb; replace HB := bs_ hb; (try clear hb)) | ((with_reducible refine gate_callee (f := 39) rfl ?_); refine gd_ (some 58) Tryz.func39 (daytime_Stamp.calls k t278 t284 t287 t288 none _ lb_ A19.out) ?_; intro w31 hb; replace BK276 := bb_ BK276.out hb; replace HB := bs_ hb; (try clear hb); (try simp only [errW_none, errW_some])))
                refine bodyPost_ret (results_list (rs := [.tmp 2, .tmp 3, .tmp 4, .tmp 5]) rfl (by simp) (.tmp (.tmp (.tmp (.tmp .nil))))) rfl ?_
                exact en_
               ·rw [if_neg c20] at H; have c20b0 : (t288.toList == a0.toList) = false := beq_eq_false_iff_ne.mpr c20; have c20b1 : (t288.toList != a0.toList) = true := bne_iff_ne.mpr c20; simp only [Option.some.injEq, Prod.mk.injEq] at H; obtain ⟨rfl, rfl, rfl, rfl⟩ := H
                go_enter Tryz.func41, Tryz.ntmps41
                try go_wp2_with (first | ((with_reducible refine gate_callee (f := 27) rfl ?_); refine gd_ (some 20) Tryz.func27 (civil_Parse.calls (a0.extract 0 10) t272 t273 t274 none _ lb_ A5.out) ?_; intro w32 hb; replace HB := bs_ hb; (try clear hb); (try simp only [errW_none, errW_some])) | ((with_reducible refine gate_dst (N := 6) rfl ?_); refine be_ (N := 6) (cs := #[.int .i64 0, .int .i64 0, .int .i64 0]) (t := 26) ?_; intro gb276 hg w33 hbox hb; have BK276 := Aside0.mk hbox; have GW276 := Aside0.mk (sz_ hg : w.heap.size ≤ gb276); have GE276 := GW276; replace HB := bs_ hb; clear hb hbox hg; have hcz34_0 : w33.cell? ⟨gb276, 0, none⟩ = some (.int .i64 0) := (blk_cell BK276.out 0).trans rfl; have hcz34_1 : w33.cell? ⟨gb276, 1, none⟩ = some (.int .i64 0) := (blk_cell BK276.out 1).trans rfl; have hcz34_2 : w33.cell? ⟨gb276, 2, none⟩ = some (.int .i64 0) := (blk_cell BK276.out 2).trans rfl; have hfz34_0 := blk_frozen BK276.out 0; have hfz34_1 := blk_frozen BK276.out 1; have hfz34_2 := blk_frozen BK276.out 2) | ((with_reducible refine gate_callee (f := 16) rfl ?_); refine gd_ (some 28) Tryz.func16 (civil_Days.calls k t272 t273 t274 t278 none _ A6.out) ?_; intro w35 hb; replace BK276 := Aside0.mk (blk_below (g := gb276) (o := .cells #[.int .i64 t272, .int .i64 t273, .int .i64 t274] 26 (0, 0)) (by (with_reducible repeat first | apply blk_drewN | apply blk_drew | apply blk_alloc); refine blk_put (cs := #[.int .i64 t272, .int .i64 t273, .int .i64 0]) ?_ 2 _ rfl; (with_reducible repeat first | apply blk_drewN | apply blk_drew | apply blk_alloc); refine blk_put (cs := #[.int .i64 t272, .int .i64 0, .int .i64 0]) ?_ 1 _ rfl; (with_reducible repeat first | apply blk_drewN | apply blk_drew | apply blk_alloc); refine blk_put (cs := #[.int .i64 0, .int .i64 0, .int .i64 0]) ?_ 0 _ rfl; (with_reducible repeat first | apply blk_drewN | apply blk_drew | apply blk_alloc); exact BK276.out) hb); replace HB := bs_ hb; (try clear hb); (try simp only [errW_none, errW_some])))
                have n0_ := Aside0.mk (blk_drew BK276.out); have n1_ := Aside0.mk (below_drew1 HB.out); clear BK276; clear HB; have BK276 := n0_; have HB := n1_; clear n0_ n1_
                refine start_ (n := 16) (S := fun w' => True) (ds := []) (bq 16 0) (by kernel_rfl) rfl (by kernel_rfl) trivial (fun hHeld => ?_); refine with_tabW daytime_Parse.tab9 daytime_Parse.bits9 (fun HT_ HW_ => ?_)
                generalize w35.drew = w36 at BK276 HB hHeld ⊢
                refine pa 0 (bq 16 1) (some 35) ?_; refine pa 1 (bq 16 2) (some 36) ?_; refine pa 3 (bs 16 11) (some 38) ?_; refine pa 4 (bs 16 27) (some 39) ?_; refine pa 6 (bs 16 91) (some 41) ?_; refine pa 7 (bs 16 219) (some 42) ?_
                refine one_ (i := 2) (N := some 37) (bs 16 223) rfl rfl (one_of HT_.out (by kernel_rfl)) (by decide) (fun K hK => ?_)
                refine goes_ Tryz.func101 (by kernel_rfl) rfl #[.string (a0.extract 11 13)] (by rfl) rfl rfl ev_ ?_
                with_reducible refine (daytime_number.calls (a0.extract 11 13) t281 _ lb_ A9.out).mono ?_
                rintro e w37 ⟨rfl, hb⟩
                refine ⟨_, rfl, ?_⟩
                have n0_ := Aside0.mk (blk_below (g := gb276) (o := .cells #[.int .i64 t272, .int .i64 t273, .int .i64 t274] 26 (0, 0)) bk_ hb); have n1_ := bs_ hb; clear BK276; clear HB; have BK276 := n0_; have HB := n1_; clear n0_ n1_
                (try clear hb)
                (try clear hb2)
                (try clear hk)
                (try clear hi)
                refine hK.out _ _ trivial (fun hHeld => ?_)
                clear hK K
                refine norm_ (a' := ?_) ?_ ?_
                rotate_left
                ·show Act.put _ (some 37) _ = _
                 simp only [Act.put, List.setIfInBounds_toArray, List.set_cons_zero, List.set_cons_succ, i64_w, i32_w]
                 rfl
                refine one_ (i := 5) (N := some 40) (bq 16 8) rfl rfl (one_of HT_.out (by kernel_rfl)) (by decide) (fun K hK => ?_)
                refine goes_ Tryz.func101 (by kernel_rfl) rfl #[.string (a0.extract 14 16)] (by rfl) rfl rfl ev_ ?_
                with_reducible refine (daytime_number.calls (a0.extract 14 16) t282 _ lb_ A12.out).mono ?_
                rintro e w38 ⟨rfl, hb⟩
                refine ⟨_, rfl, ?_⟩
                have n0_ := Aside0.mk (blk_below (g := gb276) (o := .cells #[.int .i64 t272, .int .i64 t273, .int .i64 t274] 26 (0, 0)) bk_ hb); have n1_ := bs_ hb; clear BK276; clear HB; have BK276 := n0_; have HB := n1_; clear n0_ n1_
                (try clear hb)
                (try clear hb2)
                (try clear hk)
                (try clear hi)
                refine hK.out _ _ trivial (fun hHeld => ?_)
                clear hK K
                refine norm_ (a' := ?_) ?_ ?_
                rotate_left
                ·show Act.put _ (some 40) _ = _
                 simp only [Act.put, List.setIfInBounds_toArray, List.set_cons_zero, List.set_cons_succ, i64_w, i32_w]
                 rfl
                refine one_ (i := 8) (N := some 43) (bq 16 9) rfl rfl (one_of HT_.out (by kernel_rfl)) (by decide) (fun K hK => ?_)
                refine goes_ Tryz.func101 (by kernel_rfl) rfl #[.string (a0.extract 17 19)] (by rfl) rfl rfl ev_ ?_
                with_reducible refine (daytime_number.calls (a0.extract 17 19) t283 _ lb_ A15.out).mono ?_
                rintro e w39 ⟨rfl, hb⟩
                refine ⟨_, rfl, ?_⟩
                have n0_ := Aside0.mk (blk_below (g := gb276) (o := .cells #[.int .i64 t272, .int .i64 t273, .int .i64 t274] 26 (0, 0)) bk_ hb); have n1_ := bs_ hb; clear BK276; clear HB; have BK276 := n0_; have HB := n1_; clear n0_ n1_
                (try clear hb)
                (try clear hb2)
                (try clear hk)
                (try clear hi)
                refine hK.out _ _ trivial (fun hHeld => ?_)
                clear hK K
                refine norm_ (a' := ?_) ?_ ?_
                rotate_left
                ·show Act.put _ (some 43) _ = _
                 simp only [Act.put, List.setIfInBounds_toArray, List.set_cons_zero, List.set_cons_succ, i64_w, i32_w]
                 rfl
                refine pa 9 (bq 16 10) (some 44) ?_
                refine one_ (i := 10) (N := some 45) (bq 16 11) rfl rfl (one_of HT_.out (by kernel_rfl)) (by decide) (fun K hK => ?_)
                refine goes_ Tryz.func32 (by kernel_rfl) rfl #[.agg #[.int .i64 t281, .int .i64 t282, .int .i64 t283]] (by rfl) rfl rfl ev_ ?_
                with_reducible refine (daytime_Seconds.calls t281 t282 t283 t284 none _ A16.out).mono ?_
                rintro e w40 ⟨rfl, hb⟩
                refine ⟨_, rfl, ?_⟩
                have n0_ := Aside0.mk (blk_below (g := gb276) (o := .cells #[.int .i64 t272, .int .i64 t273, .int .i64 t274] 26 (0, 0)) bk_ hb); have n1_ := bs_ hb; clear BK276; clear HB; have BK276 := n0_; have HB := n1_; clear n0_ n1_
                (try clear hb)
                (try clear hb2)
                (try clear hk)
                (try clear hi)
                (try simp only [errW_none, errW_some])
                refine hK.out _ _ trivial (fun hHeld => ?_)
                clear hK K
                refine norm_ (a' := ?_) ?_ ?_
                rotate_left
                ·show Act.put _ (some 45) _ = _
                 simp only [Act.put, List.setIfInBounds_toArray, List.set_cons_zero, List.set_cons_succ, i64_w, i32_w]
                 rfl
                refine pa 11 (bq 16 12) (some 34) ?_; refine pa 12 (bq 16 13) (some 46) ?_; refine pa 13 (bq 16 14) (some 47) ?_; refine pa 14 (bq 16 15) (some 9) ?_; refine pa 15 (bq 16 16) (some 7) ?_
                refine done_ (done_of HT_.out (by kernel_rfl)) ?_
                try go_wp2_with (first | ((with_reducible refine gate_callee (f := 101) rfl ?_); refine gd_ (some 53) Tryz.func101 (daytime_number.calls (a0.extract 20 a0.size) t287 _ lb_ A18.out) ?_; intro w41 hb; replace BK276 := bb_ BK276.out hb; replace HB := bs_ hb; (try clear hb)) | ((with_reducible refine gate_callee (f := 39) rfl ?_); refine gd_ (some 58) Tryz.func39 (daytime_Stamp.calls k t278 t284 t287 t288 none _ lb_ A19.out) ?_; intro w42 hb; replace BK276 := bb_ BK276.out hb; replace HB := bs_ hb; (try clear hb); (try simp only [errW_none, errW_some])))
                refine bodyPost_ret (results_list (rs := [.tmp 2, .tmp 3, .tmp 4, .tmp 5]) rfl (by simp) (.tmp (.tmp (.tmp (.tmp .nil))))) rfl ?_
                exact en_
              ·rw [if_neg (show ¬ (some q290).isNone = true by simp)] at H
               try dsimp only [Option.getD_some] at H
               try simp only [errW_none, errW_some]
               simp only [Option.some.injEq, Prod.mk.injEq] at H; obtain ⟨rfl, rfl, rfl, rfl⟩ := H
               go_enter Tryz.func41, Tryz.ntmps41
               try go_wp2_with (first | ((with_reducible refine gate_callee (f := 27) rfl ?_); refine gd_ (some 20) Tryz.func27 (civil_Parse.calls (a0.extract 0 10) t272 t273 t274 none _ lb_ A5.out) ?_; intro w43 hb; replace HB := bs_ hb; (try clear hb); (try simp only [errW_none, errW_some])) | ((with_reducible refine gate_dst (N := 6) rfl ?_); refine be_ (N := 6) (cs := #[.int .i64 0, .int .i64 0, .int .i64 0]) (t := 26) ?_; intro gb276 hg w44 hbox hb; have BK276 := Aside0.mk hbox; have GW276 := Aside0.mk (sz_ hg : w.heap.size ≤ gb276); have GE276 := GW276; replace HB := bs_ hb; clear hb hbox hg; have hcz45_0 : w44.cell? ⟨gb276, 0, none⟩ = some (.int .i64 0) := (blk_cell BK276.out 0).trans rfl; have hcz45_1 : w44.cell? ⟨gb276, 1, none⟩ = some (.int .i64 0) := (blk_cell BK276.out 1).trans rfl; have hcz45_2 : w44.cell? ⟨gb276, 2, none⟩ = some (.int .i64 0) := (blk_cell BK276.out 2).trans rfl; have hfz45_0 := blk_frozen BK276.out 0; have hfz45_1 := blk_frozen BK276.out 1; have hfz45_2 := blk_frozen BK276.out 2) | ((with_reducible refine gate_callee (f := 16) rfl ?_); refine gd_ (some 28) Tryz.func16 (civil_Days.calls k t272 t273 t274 t278 none _ A6.out) ?_; intro w46 hb; replace BK276 := Aside0.mk (blk_below (g := gb276) (o := .cells #[.int .i64 t272, .int .i64 t273, .int .i64 t274] 26 (0, 0)) (by (with_reducible repeat first | apply blk_drewN | apply blk_drew | apply blk_alloc); refine blk_put (cs := #[.int .i64 t272, .int .i64 t273, .int .i64 0]) ?_ 2 _ rfl; (with_reducible repeat first | apply blk_drewN | apply blk_drew | apply blk_alloc); refine blk_put (cs := #[.int .i64 t272, .int .i64 0, .int .i64 0]) ?_ 1 _ rfl; (with_reducible repeat first | apply blk_drewN | apply blk_drew | apply blk_alloc); refine blk_put (cs := #[.int .i64 0, .int .i64 0, .int .i64 0]) ?_ 0 _ rfl; (with_reducible repeat first | apply blk_drewN | apply blk_drew | apply blk_alloc); exact BK276.out) hb); replace HB := bs_ hb; (try clear hb); (try simp only [errW_none, errW_some])))
               have n0_ := Aside0.mk (blk_drew BK276.out); have n1_ := Aside0.mk (below_drew1 HB.out); clear BK276; clear HB; have BK276 := n0_; have HB := n1_; clear n0_ n1_
               refine start_ (n := 16) (S := fun w' => True) (ds := []) (bq 16 0) (by kernel_rfl) rfl (by kernel_rfl) trivial (fun hHeld => ?_); refine with_tabW daytime_Parse.tab9 daytime_Parse.bits9 (fun HT_ HW_ => ?_)
               generalize w46.drew = w47 at BK276 HB hHeld ⊢
               refine pa 0 (bq 16 1) (some 35) ?_; refine pa 1 (bq 16 2) (some 36) ?_; refine pa 3 (bs 16 11) (some 38) ?_; refine pa 4 (bs 16 27) (some 39) ?_; refine pa 6 (bs 16 91) (some 41) ?_; refine pa 7 (bs 16 219) (some 42) ?_
               refine one_ (i := 2) (N := some 37) (bs 16 223) rfl rfl (one_of HT_.out (by kernel_rfl)) (by decide) (fun K hK => ?_)
               refine goes_ Tryz.func101 (by kernel_rfl) rfl #[.string (a0.extract 11 13)] (by rfl) rfl rfl ev_ ?_
               with_reducible refine (daytime_number.calls (a0.extract 11 13) t281 _ lb_ A9.out).mono ?_
               rintro e w48 ⟨rfl, hb⟩
               refine ⟨_, rfl, ?_⟩
               have n0_ := Aside0.mk (blk_below (g := gb276) (o := .cells #[.int .i64 t272, .int .i64 t273, .int .i64 t274] 26 (0, 0)) bk_ hb); have n1_ := bs_ hb; clear BK276; clear HB; have BK276 := n0_; have HB := n1_; clear n0_ n1_
               (try clear hb)
               (try clear hb2)
               (try clear hk)
               (try clear hi)
               refine hK.out _ _ trivial (fun hHeld => ?_)
               clear hK K
               refine norm_ (a' := ?_) ?_ ?_
               rotate_left
               ·show Act.put _ (some 37) _ = _
                simp only [Act.put, List.setIfInBounds_toArray, List.set_cons_zero, List.set_cons_succ, i64_w, i32_w]
                rfl
               refine one_ (i := 5) (N := some 40) (bq 16 8) rfl rfl (one_of HT_.out (by kernel_rfl)) (by decide) (fun K hK => ?_)
               refine goes_ Tryz.func101 (by kernel_rfl) rfl #[.string (a0.extract 14 16)] (by rfl) rfl rfl ev_ ?_
               with_reducible refine (daytime_number.calls (a0.extract 14 16) t282 _ lb_ A12.out).mono ?_
               rintro e w49 ⟨rfl, hb⟩
               refine ⟨_, rfl, ?_⟩
               have n0_ := Aside0.mk (blk_below (g := gb276) (o := .cells #[.int .i64 t272, .int .i64 t273, .int .i64 t274] 26 (0, 0)) bk_ hb); have n1_ := bs_ hb; clear BK276; clear HB; have BK276 := n0_; have HB := n1_; clear n0_ n1_
               (try clear hb)
               (try clear hb2)
               (try clear hk)
               (try clear hi)
               refine hK.out _ _ trivial (fun hHeld => ?_)
               clear hK K
               refine norm_ (a' := ?_) ?_ ?_
               rotate_left
               ·show Act.put _ (some 40) _ = _
                simp only [Act.put, List.setIfInBounds_toArray, List.set_cons_zero, List.set_cons_succ, i64_w, i32_w]
                rfl
               refine one_ (i := 8) (N := some 43) (bq 16 9) rfl rfl (one_of HT_.out (by kernel_rfl)) (by decide) (fun K hK => ?_)
               refine goes_ Tryz.func101 (by kernel_rfl) rfl #[.string (a0.extract 17 19)] (by rfl) rfl rfl ev_ ?_
               with_reducible refine (daytime_number.calls (a0.extract 17 19) t283 _ lb_ A15.out).mono ?_
               rintro e w50 ⟨rfl, hb⟩
               refine ⟨_, rfl, ?_⟩
               have n0_ := Aside0.mk (blk_below (g := gb276) (o := .cells #[.int .i64 t272, .int .i64 t273, .int .i64 t274] 26 (0, 0)) bk_ hb); have n1_ := bs_ hb; clear BK276; clear HB; have BK276 := n0_; have HB := n1_; clear n0_ n1_
               (try clear hb)
               (try clear hb2)
               (try clear hk)
               (try clear hi)
               refine hK.out _ _ trivial (fun hHeld => ?_)
               clear hK K
               refine norm_ (a' := ?_) ?_ ?_
               rotate_left
               ·show Act.put _ (some 43) _ = _
                simp only [Act.put, List.setIfInBounds_toArray, List.set_cons_zero, List.set_cons_succ, i64_w, i32_w]
                rfl
               refine pa 9 (bq 16 10) (some 44) ?_
               refine one_ (i := 10) (N := some 45) (bq 16 11) rfl rfl (one_of HT_.out (by kernel_rfl)) (by decide) (fun K hK => ?_)
               refine goes_ Tryz.func32 (by kernel_rfl) rfl #[.agg #[.int .i64 t281, .int .i64 t282, .int .i64 t283]] (by rfl) rfl rfl ev_ ?_
               with_reducible refine (daytime_Seconds.calls t281 t282 t283 t284 none _ A16.out).mono ?_
               rintro e w51 ⟨rfl, hb⟩
               refine ⟨_, rfl, ?_⟩
               have n0_ := Aside0.mk (blk_below (g := gb276) (o := .cells #[.int .i64 t272, .int .i64 t273, .int .i64 t274] 26 (0, 0)) bk_ hb); have n1_ := bs_ hb; clear BK276; clear HB; have BK276 := n0_; have HB := n1_; clear n0_ n1_
               (try clear hb)
               (try clear hb2)
               (try clear hk)
               (try clear hi)
               (try simp only [errW_none, errW_some])
               refine hK.out _ _ trivial (fun hHeld => ?_)
               clear hK K
               refine norm_ (a' := ?_) ?_ ?_
               rotate_left
               ·show Act.put _ (some 45) _ = _
                simp only [Act.put, List.setIfInBounds_toArray, List.set_cons_zero, List.set_cons_succ, i64_w, i32_w]
                rfl
               refine pa 11 (bq 16 12) (some 34) ?_; refine pa 12 (bq 16 13) (some 46) ?_; refine pa 13 (bq 16 14) (some 47) ?_; refine pa 14 (bq 16 15) (some 9) ?_; refine pa 15 (bq 16 16) (some 7) ?_
               refine done_ (done_of HT_.out (by kernel_rfl)) ?_
               try go_wp2_with (first | ((with_reducible refine gate_callee (f := 101) rfl ?_); refine gd_ (some 53) Tryz.func101 (daytime_number.calls (a0.extract 20 a0.size) t287 _ lb_ A18.out) ?_; intro w52 hb; replace BK276 := bb_ BK276.out hb; replace HB := bs_ hb; (try clear hb)) | ((with_reducible refine gate_callee (f := 39) rfl ?_); refine gd_ (some 58) Tryz.func39 (daytime_Stamp.calls k t278 t284 t287 t288 (some q290) _ lb_ A19.out) ?_; intro w53 hb; replace BK276 := bb_ BK276.out hb; replace HB := bs_ hb; (try clear hb); (try simp only [errW_none, errW_some])))
               refine bodyPost_ret (results_list (rs := [.tmp 2, .tmp 3, .tmp 4, .tmp 5]) rfl (by simp) (.tmp (.tmp (.tmp (.tmp .nil))))) rfl ?_
               exact en_
             ·rw [if_neg c17] at H; exact absurd H (by simp)
            ·rw [if_neg (show ¬ (some q286).isNone = true by simp)] at H
             try dsimp only [Option.getD_some] at H
             try simp only [errW_none, errW_some]
             simp only [Option.some.injEq, Prod.mk.injEq] at H; obtain ⟨rfl, rfl, rfl, rfl⟩ := H
             go_enter Tryz.func41, Tryz.ntmps41
             try go_wp2_with (first | ((with_reducible refine gate_callee (f := 27) rfl ?_); refine gd_ (some 20) Tryz.func27 (civil_Parse.calls (a0.extract 0 10) t272 t273 t274 none _ lb_ A5.out) ?_; intro w54 hb; replace HB := bs_ hb; (try clear hb); (try simp only [errW_none, errW_some])) | ((with_reducible refine gate_dst (N := 6) rfl ?_); refine be_ (N := 6) (cs := #[.int .i64 0, .int .i64 0, .int .i64 0]) (t := 26) ?_; intro gb276 hg w55 hbox hb; have BK276 := Aside0.mk hbox; have GW276 := Aside0.mk (sz_ hg : w.heap.size ≤ gb276); have GE276 := GW276; replace HB := bs_ hb; clear hb hbox hg; have hcz56_0 : w55.cell? ⟨gb276, 0, none⟩ = some (.int .i64 0) := (blk_cell BK276.out 0).trans rfl; have hcz56_1 : w55.cell? ⟨gb276, 1, none⟩ = some (.int .i64 0) := (blk_cell BK276.out 1).trans rfl; have hcz56_2 : w55.cell? ⟨gb276, 2, none⟩ = some (.int .i64 0) := (blk_cell BK276.out 2).trans rfl; have hfz56_0 := blk_frozen BK276.out 0; have hfz56_1 := blk_frozen BK276.out 1; have hfz56_2 := blk_frozen BK276.out 2) | ((with_reducible refine gate_callee (f := 16) rfl ?_); refine gd_ (some 28) Tryz.func16 (civil_Days.calls k t272 t273 t274 t278 none _ A6.out) ?_; intro w57 hb; replace BK276 := Aside0.mk (blk_below (g := gb276) (o := .cells #[.int .i64 t272, .int .i64 t273, .int .i64 t274] 26 (0, 0)) (by (with_reducible repeat first | apply blk_drewN | apply blk_drew | apply blk_alloc); refine blk_put (cs := #[.int .i64 t272, .int .i64 t273, .int .i64 0]) ?_ 2 _ rfl; (with_reducible repeat first | apply blk_drewN | apply blk_drew | apply blk_alloc); refine blk_put (cs := #[.int .i64 t272, .int .i64 0, .int .i64 0]) ?_ 1 _ rfl; (with_reducible repeat first | apply blk_drewN | apply blk_drew | apply blk_alloc); refine blk_put (cs := #[.int .i64 0, .int .i64 0, .int .i64 0]) ?_ 0 _ rfl; (with_reducible repeat first | apply blk_drewN | apply blk_drew | apply blk_alloc); exact BK276.out) hb); replace HB := bs_ hb; (try clear hb); (try simp only [errW_none, errW_some])))
             have n0_ := Aside0.mk (blk_drew BK276.out); have n1_ := Aside0.mk (below_drew1 HB.out); clear BK276; clear HB; have BK276 := n0_; have HB := n1_; clear n0_ n1_
             refine start_ (n := 16) (S := fun w' => True) (ds := []) (bq 16 0) (by kernel_rfl) rfl (by kernel_rfl) trivial (fun hHeld => ?_); refine with_tabW daytime_Parse.tab9 daytime_Parse.bits9 (fun HT_ HW_ => ?_)
             generalize w57.drew = w58 at BK276 HB hHeld ⊢
             refine pa 0 (bq 16 1) (some 35) ?_; refine pa 1 (bq 16 2) (some 36) ?_; refine pa 3 (bs 16 11) (some 38) ?_; refine pa 4 (bs 16 27) (some 39) ?_; refine pa 6 (bs 16 91) (some 41) ?_; refine pa 7 (bs 16 219) (some 42) ?_
             refine one_ (i := 2) (N := some 37) (bs 16 223) rfl rfl (one_of HT_.out (by kernel_rfl)) (by decide) (fun K hK => ?_)
             refine goes_ Tryz.func101 (by kernel_rfl) rfl #[.string (a0.extract 11 13)] (by rfl) rfl rfl ev_ ?_
             with_reducible refine (daytime_number.calls (a0.extract 11 13) t281 _ lb_ A9.out).mono ?_
             rintro e w59 ⟨rfl, hb⟩
             refine ⟨_, rfl, ?_⟩
             have n0_ := Aside0.mk (blk_below (g := gb276) (o := .cells #[.int .i64 t272, .int .i64 t273, .int .i64 t274] 26 (0, 0)) bk_ hb); have n1_ := bs_ hb; clear BK276; clear HB; have BK276 := n0_; have HB := n1_; clear n0_ n1_
             (try clear hb)
             (try clear hb2)
             (try clear hk)
             (try clear hi)
             refine hK.out _ _ trivial (fun hHeld => ?_)
             clear hK K
             refine norm_ (a' := ?_) ?_ ?_
             rotate_left
             ·show Act.put _ (some 37) _ = _
              simp only [Act.put, List.setIfInBounds_toArray, List.set_cons_zero, List.set_cons_succ, i64_w, i32_w]
              rfl
             refine one_ (i := 5) (N := some 40) (bq 16 8) rfl rfl (one_of HT_.out (by kernel_rfl)) (by decide) (fun K hK => ?_)
             refine goes_ Tryz.func101 (by kernel_rfl) rfl #[.string (a0.extract 14 16)] (by rfl) rfl rfl ev_ ?_
             with_reducible refine (daytime_number.calls (a0.extract 14 16) t282 _ lb_ A12.out).mono ?_
             rintro e w60 ⟨rfl, hb⟩
             refine ⟨_, rfl, ?_⟩
             have n0_ := Aside0.mk (blk_below (g := gb276) (o := .cells #[.int .i64 t272, .int .i64 t273, .int .i64 t274] 26 (0, 0)) bk_ hb); have n1_ := bs_ hb; clear BK276; clear HB; have BK276 := n0_; have HB := n1_; clear n0_ n1_
             (try clear hb)
             (try clear hb2)
             (try clear hk)
             (try clear hi)
             refine hK.out _ _ trivial (fun hHeld => ?_)
             clear hK K
             refine norm_ (a' := ?_) ?_ ?_
             rotate_left
             ·show Act.put _ (some 40) _ = _
              simp only [Act.put, List.setIfInBounds_toArray, List.set_cons_zero, List.set_cons_succ, i64_w, i32_w]
              rfl
             refine one_ (i := 8) (N := some 43) (bq 16 9) rfl rfl (one_of HT_.out (by kernel_rfl)) (by decide) (fun K hK => ?_)
             refine goes_ Tryz.func101 (by kernel_rfl) rfl #[.string (a0.extract 17 19)] (by rfl) rfl rfl ev_ ?_
             with_reducible refine (daytime_number.calls (a0.extract 17 19) t283 _ lb_ A15.out).mono ?_
             rintro e w61 ⟨rfl, hb⟩
             refine ⟨_, rfl, ?_⟩
             have n0_ := Aside0.mk (blk_below (g := gb276) (o := .cells #[.int .i64 t272, .int .i64 t273, .int .i64 t274] 26 (0, 0)) bk_ hb); have n1_ := bs_ hb; clear BK276; clear HB; have BK276 := n0_; have HB := n1_; clear n0_ n1_
             (try clear hb)
             (try clear hb2)
             (try clear hk)
             (try clear hi)
             refine hK.out _ _ trivial (fun hHeld => ?_)
             clear hK K
             refine norm_ (a' := ?_) ?_ ?_
             rotate_left
             ·show Act.put _ (some 43) _ = _
              simp only [Act.put, List.setIfInBounds_toArray, List.set_cons_zero, List.set_cons_succ, i64_w, i32_w]
              rfl
             refine pa 9 (bq 16 10) (some 44) ?_
             refine one_ (i := 10) (N := some 45) (bq 16 11) rfl rfl (one_of HT_.out (by kernel_rfl)) (by decide) (fun K hK => ?_)
             refine goes_ Tryz.func32 (by kernel_rfl) rfl #[.agg #[.int .i64 t281, .int .i64 t282, .int .i64 t283]] (by rfl) rfl rfl ev_ ?_
             with_reducible refine (daytime_Seconds.calls t281 t282 t283 t284 (some q286) _ A16.out).mono ?_
             rintro e w62 ⟨rfl, hb⟩
             refine ⟨_, rfl, ?_⟩
             have n0_ := Aside0.mk (blk_below (g := gb276) (o := .cells #[.int .i64 t272, .int .i64 t273, .int .i64 t274] 26 (0, 0)) bk_ hb); have n1_ := bs_ hb; clear BK276; clear HB; have BK276 := n0_; have HB := n1_; clear n0_ n1_
             (try clear hb)
             (try clear hb2)
             (try clear hk)
             (try clear hi)
             (try simp only [errW_none, errW_some])
             refine hK.out _ _ trivial (fun hHeld => ?_)
             clear hK K
             refine norm_ (a' := ?_) ?_ ?_
             rotate_left
             ·show Act.put _ (some 45) _ = _
              simp only [Act.put, List.setIfInBounds_toArray, List.set_cons_zero, List.set_cons_succ, i64_w, i32_w]
              rfl
             refine pa 11 (bq 16 12) (some 34) ?_; refine pa 12 (bq 16 13) (some 46) ?_; refine pa 13 (bq 16 14) (some 47) ?_; refine pa 14 (bq 16 15) (some 9) ?_; refine pa 15 (bq 16 16) (some 7) ?_
             refine done_ (done_of HT_.out (by kernel_rfl)) ?_
             try go_wp2
             refine bodyPost_ret (results_list (rs := [.tmp 2, .tmp 3, .tmp 4, .tmp 5]) rfl (by simp) (.tmp (.tmp (.tmp (.tmp .nil))))) rfl ?_
             exact en_
           ·rw [if_neg c14] at H; exact absurd H (by simp)
          ·rw [if_neg c13] at H; exact absurd H (by simp)
         ·rw [if_neg c11] at H; exact absurd H (by simp)
        ·rw [if_neg c10] at H; exact absurd H (by simp)
       ·rw [if_neg c8] at H; exact absurd H (by simp)
      ·rw [if_neg c7] at H; exact absurd H (by simp)
     ·rw [if_neg (show ¬ (some q280).isNone = true by simp)] at H
      try dsimp only [Option.getD_some] at H
      try simp only [errW_none, errW_some]
      simp only [Option.some.injEq, Prod.mk.injEq] at H; obtain ⟨rfl, rfl, rfl, rfl⟩ := H
      go_enter Tryz.func41, Tryz.ntmps41
      go_wp2_with (first | ((with_reducible refine gate_callee (f := 27) rfl ?_); refine gd_ (some 20) Tryz.func27 (civil_Parse.calls (a0.extract 0 10) t272 t273 t274 none _ lb_ A5.out) ?_; intro w63 hb; replace HB := bs_ hb; (try clear hb); (try simp only [errW_none, errW_some])) | ((with_reducible refine gate_dst (N := 6) rfl ?_); refine be_ (N := 6) (cs := #[.int .i64 0, .int .i64 0, .int .i64 0]) (t := 26) ?_; intro gb276 hg w64 hbox hb; have BK276 := Aside0.mk hbox; have GW276 := Aside0.mk (sz_ hg : w.heap.size ≤ gb276); have GE276 := GW276; replace HB := bs_ hb; clear hb hbox hg; have hcz65_0 : w64.cell? ⟨gb276, 0, none⟩ = some (.int .i64 0) := (blk_cell BK276.out 0).trans rfl; have hcz65_1 : w64.cell? ⟨gb276, 1, none⟩ = some (.int .i64 0) := (blk_cell BK276.out 1).trans rfl; have hcz65_2 : w64.cell? ⟨gb276, 2, none⟩ = some (.int .i64 0) := (blk_cell BK276.out 2).trans rfl; have hfz65_0 := blk_frozen BK276.out 0; have hfz65_1 := blk_frozen BK276.out 1; have hfz65_2 := blk_frozen BK276.out 2) | ((with_reducible refine gate_callee (f := 16) rfl ?_); refine gd_ (some 28) Tryz.func16 (civil_Days.calls k t272 t273 t274 t278 (some q280) _ A6.out) ?_; intro w66 hb; replace BK276 := Aside0.mk (blk_below (g := gb276) (o := .cells #[.int .i64 t272, .int .i64 t273, .int .i64 t274] 26 (0, 0)) (by (with_reducible repeat first | apply blk_drewN | apply blk_drew | apply blk_alloc); refine blk_put (cs := #[.int .i64 t272, .int .i64 t273, .int .i64 0]) ?_ 2 _ rfl; (with_reducible repeat first | apply blk_drewN | apply blk_drew | apply blk_alloc); refine blk_put (cs := #[.int .i64 t272, .int .i64 0, .int .i64 0]) ?_ 1 _ rfl; (with_reducible repeat first | apply blk_drewN | apply blk_drew | apply blk_alloc); refine blk_put (cs := #[.int .i64 0, .int .i64 0, .int .i64 0]) ?_ 0 _ rfl; (with_reducible repeat first | apply blk_drewN | apply blk_drew | apply blk_alloc); exact BK276.out) hb); replace HB := bs_ hb; (try clear hb); (try simp only [errW_none, errW_some])))
      refine bodyPost_ret (results_list (rs := [.tmp 2, .tmp 3, .tmp 4, .tmp 5]) rfl (by simp) (.tmp (.tmp (.tmp (.tmp .nil))))) rfl ?_
      exact en_
    ·rw [if_neg (show ¬ (some q277).isNone = true by simp)] at H
     try dsimp only [Option.getD_some] at H
     try simp only [errW_none, errW_some]
     simp only [Option.some.injEq, Prod.mk.injEq] at H; obtain ⟨rfl, rfl, rfl, rfl⟩ := H
     go_enter Tryz.func41, Tryz.ntmps41
     go_wp2_with (first | ((with_reducible refine gate_callee (f := 27) rfl ?_); refine gd_ (some 20) Tryz.func27 (civil_Parse.calls (a0.extract 0 10) t272 t273 t274 (some q277) _ lb_ A5.out) ?_; intro w67 hb; replace HB := bs_ hb; (try clear hb); (try simp only [errW_none, errW_some])) | ((with_reducible refine gate_dst (N := 6) rfl ?_); refine be_ (N := 6) (cs := #[.int .i64 0, .int .i64 0, .int .i64 0]) (t := 26) ?_; intro gb276 hg w68 hbox hb; have BK276 := Aside0.mk hbox; have GW276 := Aside0.mk (sz_ hg : w.heap.size ≤ gb276); have GE276 := GW276; replace HB := bs_ hb; clear hb hbox hg; have hcz69_0 : w68.cell? ⟨gb276, 0, none⟩ = some (.int .i64 0) := (blk_cell BK276.out 0).trans rfl; have hcz69_1 : w68.cell? ⟨gb276, 1, none⟩ = some (.int .i64 0) := (blk_cell BK276.out 1).trans rfl; have hcz69_2 : w68.cell? ⟨gb276, 2, none⟩ = some (.int .i64 0) := (blk_cell BK276.out 2).trans rfl; have hfz69_0 := blk_frozen BK276.out 0; have hfz69_1 := blk_frozen BK276.out 1; have hfz69_2 := blk_frozen BK276.out 2))
     refine bodyPost_ret (results_list (rs := [.tmp 2, .tmp 3, .tmp 4, .tmp 5]) rfl (by simp) (.tmp (.tmp (.tmp (.tmp .nil))))) rfl ?_
     exact en_
   ·rw [if_neg c4] at H; exact absurd H (by simp)
  ·rw [if_neg c3] at H; exact absurd H (by simp)
 ·rw [if_neg c2] at H; have c2b0 : ((a0.size : Int) == 29) = false := beq_eq_false_iff_ne.mpr c2; have c2b1 : ((a0.size : Int) != 29) = true := bne_iff_ne.mpr c2; simp only [Option.some.injEq, Prod.mk.injEq] at H; obtain ⟨rfl, rfl, rfl, rfl⟩ := H
  go_enter Tryz.func41, Tryz.ntmps41
  go_wp2
  refine bodyPost_ret (results_list (rs := [.tmp 2, .tmp 3, .tmp 4, .tmp 5]) rfl (by simp) (.tmp (.tmp (.tmp (.tmp .nil))))) rfl ?_
  exact en_
end Go.Proofs.YtfjifhkgifefeaaGreatDoor.PA
end

section
namespace Go.Proofs.YtfjifhkgifefeaaGreatDoor.PA
open Giv Go.RowKit YtfjifhkgifefeaaGreatDoorW.PrintWords YtfjifhkgifefeaaGreatDoorW.PrintLast YtfjifhkgifefeaaGreatDoorW.PrintMore
attribute [local go_sem] max2_int min2_int max_two min_two max_three min_three max_four min_four
set_option linter.unusedVariables false
set_option linter.unusedSimpArgs false
def fuseeref08_Seconds.j0 : Nat → Bool → Int → Int → Int → Option (Int)
 | 0, _, _, _, _ => none
 | k + 1, x15, x251000, x251001, x251002 => if x15 = true then (some 86400) else (if x251000 < 0 then (some (-1)) else (if x251000 > 23 then (some (-1)) else (if x251001 < 0 then (some (-1)) else (if x251001 > 59 then (some (-1)) else (if x251002 < 0 then (some (-1)) else (if x251002 > 59 then (some (-1)) else (some (wrap64 ((wrap64 ((wrap64 ((wrap64 (x251000 * 60)) + x251001)) * 60)) + x251002)))))))))
def fuseeref08_Seconds.f (k : Nat) (a0_0 : Int) (a0_1 : Int) (a0_2 : Int) : Option (Int) := if a0_0 = 23 then (if a0_1 = 59 then (fuseeref08_Seconds.j0 k (a0_2 == 60) a0_0 a0_1 a0_2) else (fuseeref08_Seconds.j0 k false a0_0 a0_1 a0_2)) else (fuseeref08_Seconds.j0 k false a0_0 a0_1 a0_2)
theorem fuseeref08_Seconds.calls (k : Nat) (a0_0 : Int) (a0_1 : Int) (a0_2 : Int) (r : Int) (w : World) (h : fuseeref08_Seconds.f k a0_0 a0_1 a0_2 = some r) :
  Calls Tryz.prog 34 #[.agg #[.int .i64 a0_0, .int .i64 a0_1, .int .i64 a0_2]] w fun e w' => e = .returned (.int .i64 r) ∧ Below w.heap.size w w' := by
 have hu49 := Tryz.underlying49; have HB := Aside0.mk (Below.refl w.heap.size w); have H := h; clear h; replace H : (if a0_0 = 23 then (if a0_1 = 59 then (fuseeref08_Seconds.j0 k (a0_2 == 60) a0_0 a0_1 a0_2) else (fuseeref08_Seconds.j0 k false a0_0 a0_1 a0_2)) else (fuseeref08_Seconds.j0 k false a0_0 a0_1 a0_2)) = some r := H; have HC2 := Aside0.mk H; clear H
 go_enter Tryz.func34, Tryz.ntmps34
 go_upto_region 1 with (first | ((with_reducible refine gate_dst (N := 1) rfl ?_); refine be_ (N := 1) (cs := #[.int .i64 a0_0, .int .i64 a0_1, .int .i64 a0_2]) (t := 49) ?_; intro gb250 hg w3 hbox hb; have BK250 := Aside0.mk hbox; have GW250 := Aside0.mk (sz_ hg : w.heap.size ≤ gb250); have GE250 := GW250; replace HB := bs_ hb; clear hb hbox hg))
 (try simp only [Act.put, List.setIfInBounds_toArray, List.set_cons_zero, List.set_cons_succ])
 go_cut [15] (fun v15 wc => ∃ (kq : Nat) (x15_1 : Bool), v15 = .bool x15_1 ∧ Aside0 (fuseeref08_Seconds.j0 kq x15_1 a0_0 a0_1 a0_2 = some r) ∧ Aside0 (kq ≤ k) ∧ Aside0 (wc.heap[gb250]? = some (.cells #[.int .i64 a0_0, .int .i64 a0_1, .int .i64 a0_2] 49 (0, 0))) ∧ Aside0 (Below w.heap.size w wc))
 case first =>
  have H := HC2.out; clear HC2
  by_cases c4 : a0_0 = 23
  ·rw [if_pos c4] at H; have c4b0 : (a0_0 == 23) = true := beq_iff_eq.mpr c4; have c4b1 : (a0_0 != 23) = false := bne_eq_false_iff_eq.mpr c4; clear c4
   (first | rw [c4b0] | (simp only [i64_w, i32_w]; rw [c4b0]) | skip)
   by_cases c5 : a0_1 = 59
   ·rw [if_pos c5] at H; have c5b0 : (a0_1 == 59) = true := beq_iff_eq.mpr c5; have c5b1 : (a0_1 != 59) = false := bne_eq_false_iff_eq.mpr c5; clear c5; have H' := Aside0.mk H; clear H; have hcz6_0 : w3.cell? ⟨gb250, 0, none⟩ = some (.int .i64 a0_0) := (blk_cell BK250.out 0).trans rfl; have hcz6_1 : w3.cell? ⟨gb250, 1, none⟩ = some (.int .i64 a0_1) := (blk_cell BK250.out 1).trans rfl; have hcz6_2 : w3.cell? ⟨gb250, 2, none⟩ = some (.int .i64 a0_2) := (blk_cell BK250.out 2).trans rfl; have hfz6_0 := blk_frozen BK250.out 0; have hfz6_1 := blk_frozen BK250.out 1; have hfz6_2 := blk_frozen BK250.out 2
    go_wp2
    go_meet
    case rel => exact ⟨_, ((a0_2 == 60)), rs_, H', ⟨by first | omega | exact Nat.le_refl _⟩, ⟨bk_⟩, ⟨bl_⟩⟩
   ·rw [if_neg c5] at H; have c5b0 : (a0_1 == 59) = false := beq_eq_false_iff_ne.mpr c5; have c5b1 : (a0_1 != 59) = true := bne_iff_ne.mpr c5; have H' := Aside0.mk H; clear H; have hcz7_0 : w3.cell? ⟨gb250, 0, none⟩ = some (.int .i64 a0_0) := (blk_cell BK250.out 0).trans rfl; have hcz7_1 : w3.cell? ⟨gb250, 1, none⟩ = some (.int .i64 a0_1) := (blk_cell BK250.out 1).trans rfl; have hcz7_2 : w3.cell? ⟨gb250, 2, none⟩ = some (.int .i64 a0_2) := (blk_cell BK250.out 2).trans rfl; have hfz7_0 := blk_frozen BK250.out 0; have hfz7_1 := blk_frozen BK250.out 1; have hfz7_2 := blk_frozen BK250.out 2
    go_wp2
    go_meet
    case rel => exact ⟨_, (false), rs_, H', ⟨by first | omega | exact Nat.le_refl _⟩, ⟨bk_⟩, ⟨bl_⟩⟩
  ·rw [if_neg c4] at H; have c4b0 : (a0_0 == 23) = false := beq_eq_false_iff_ne.mpr c4; have c4b1 : (a0_0 != 23) = true := bne_iff_ne.mpr c4
   (first | rw [c4b0] | (simp only [i64_w, i32_w]; rw [c4b0]) | skip)
   have H' := Aside0.mk H; clear H; have hcz8_0 : w3.cell? ⟨gb250, 0, none⟩ = some (.int .i64 a0_0) := (blk_cell BK250.out 0).trans rfl; have hcz8_1 : w3.cell? ⟨gb250, 1, none⟩ = some (.int .i64 a0_1) := (blk_cell BK250.out 1).trans rfl; have hcz8_2 : w3.cell? ⟨gb250, 2, none⟩ = some (.int .i64 a0_2) := (blk_cell BK250.out 2).trans rfl; have hfz8_0 := blk_frozen BK250.out 0; have hfz8_1 := blk_frozen BK250.out 1; have hfz8_2 := blk_frozen BK250.out 2
   go_wp2
   go_meet
   case rel => exact ⟨_, (false), rs_, H', ⟨by first | omega | exact Nat.le_refl _⟩, ⟨bk_⟩, ⟨bl_⟩⟩
 case rest =>
  clear HC2; (try clear p2); (try clear c3); (try clear c4); (try clear c4b0); (try clear c4b1); (try clear c5); (try clear c5b0); (try clear c5b1); (try clear hcz6_0); (try clear hcz6_1); (try clear hcz6_2); (try clear hcz7_0); (try clear hcz7_1); (try clear hcz7_2); (try clear hcz8_0); (try clear hcz8_1); (try clear hcz8_2); (try clear hfz6_0); (try clear hfz6_1); (try clear hfz6_2); (try clear hfz7_0); (try clear hfz7_1); (try clear hfz7_2); (try clear hfz8_0); (try clear hfz8_1); (try clear hfz8_2); obtain ⟨kq, x15_1, rfl, HA, HJ1, BK250, HB⟩ := hcut
  cases kq with
  | zero => exact absurd HA.out (by simp [fuseeref08_Seconds.j0])
  | succ kj1 =>
   have H := HA.out; clear HA; simp only [fuseeref08_Seconds.j0] at H
   by_cases c9 : x15_1 = true
   ·subst c9
    have H1 : (some 86400) = some r := by rw [if_pos rfl] at H; exact H
    clear H; have H := H1; clear H1
    obtain rfl := Option.some.inj H
    go_wp2
    go_ret
    exact en_
   ·replace c9 := Bool.eq_false_iff.mpr c9; subst c9
    have H1 : (if a0_0 < 0 then (some (-1)) else (if a0_0 > 23 then (some (-1)) else (if a0_1 < 0 then (some (-1)) else (if a0_1 > 59 then (some (-1)) else (if a0_2 < 0 then (some (-1)) else (if a0_2 > 59 then (some (-1)) else (some (wrap64 ((wrap64 ((wrap64 ((wrap64 (a0_0 * 60)) + a0_1)) * 60)) + a0_2))))))))) = some r := by rw [if_neg (show ¬ (false = true) by decide)] at H; exact H
    clear H; have H := H1; clear H1
    by_cases c10 : a0_0 < 0
    ·rw [if_pos c10] at H; have c10b0 : decide (a0_0 < 0) = true := decide_eq_true c10; clear c10
     obtain rfl := Option.some.inj H
     have hcz11_0 : wc.cell? ⟨gb250, 0, none⟩ = some (.int .i64 a0_0) := (blk_cell BK250.out 0).trans rfl; have hcz11_1 : wc.cell? ⟨gb250, 1, none⟩ = some (.int .i64 a0_1) := (blk_cell BK250.out 1).trans rfl; have hcz11_2 : wc.cell? ⟨gb250, 2, none⟩ = some (.int .i64 a0_2) := (blk_cell BK250.out 2).trans rfl; have hfz11_0 := blk_frozen BK250.out 0; have hfz11_1 := blk_frozen BK250.out 1; have hfz11_2 := blk_frozen BK250.out 2
     go_wp2
     go_ret
     exact en_
    ·rw [if_neg c10] at H; have c10b0 : decide (a0_0 < 0) = false := decide_eq_false c10; clear c10
     by_cases c12 : a0_0 > 23
     ·rw [if_pos c12] at H; have c12b0 : decide (23 < a0_0) = true := decide_eq_true c12; clear c12
      obtain rfl := Option.some.inj H
      have hcz13_0 : wc.cell? ⟨gb250, 0, none⟩ = some (.int .i64 a0_0) := (blk_cell BK250.out 0).trans rfl; have hcz13_1 : wc.cell? ⟨gb250, 1, none⟩ = some (.int .i64 a0_1) := (blk_cell BK250.out 1).trans rfl; have hcz13_2 : wc.cell? ⟨gb250, 2, none⟩ = some (.int .i64 a0_2) := (blk_cell BK250.out 2).trans rfl; have hfz13_0 := blk_frozen BK250.out 0; have hfz13_1 := blk_frozen BK250.out 1; have hfz13_2 := blk_frozen BK250.out 2
      go_wp2
      go_ret
      exact en_
     ·rw [if_neg c12] at H; have c12b0 : decide (23 < a0_0) = false := decide_eq_false c12; clear c12
      by_cases c14 : a0_1 < 0
      ·rw [if_pos c14] at H; have c14b0 : decide (a0_1 < 0) = true := decide_eq_true c14; clear c14
       obtain rfl := Option.some.inj H
       have hcz15_0 : wc.cell? ⟨gb250, 0, none⟩ = some (.int .i64 a0_0) := (blk_cell BK250.out 0).trans rfl; have hcz15_1 : wc.cell? ⟨gb250, 1, none⟩ = some (.int .i64 a0_1) := (blk_cell BK250.out 1).trans rfl; have hcz15_2 : wc.cell? ⟨gb250, 2, none⟩ = some (.int .i64 a0_2) := (blk_cell BK250.out 2).trans rfl; have hfz15_0 := blk_frozen BK250.out 0; have hfz15_1 := blk_frozen BK250.out 1; have hfz15_2 := blk_frozen BK250.out 2
       go_wp2
       go_ret
       exact en_
      ·rw [if_neg c14] at H; have c14b0 : decide (a0_1 < 0) = false := decide_eq_false c14; clear c14
       by_cases c16 : a0_1 > 59
       ·rw [if_pos c16] at H; have c16b0 : decide (59 < a0_1) = true := decide_eq_true c16; clear c16
        obtain rfl := Option.some.inj H
        have hcz17_0 : wc.cell? ⟨gb250, 0, none⟩ = some (.int .i64 a0_0) := (blk_cell BK250.out 0).trans rfl; have hcz17_1 : wc.cell? ⟨gb250, 1, none⟩ = some (.int .i64 a0_1) := (blk_cell BK250.out 1).trans rfl; have hcz17_2 : wc.cell? ⟨gb250, 2, none⟩ = some (.int .i64 a0_2) := (blk_cell BK250.out 2).trans rfl; have hfz17_0 := blk_frozen BK250.out 0; have hfz17_1 := blk_frozen BK250.out 1; have hfz17_2 := blk_frozen BK250.out 2
        go_wp2
        go_ret
        exact en_
       ·rw [if_neg c16] at H; have c16b0 : decide (59 < a0_1) = false := decide_eq_false c16; clear c16
        by_cases c18 : a0_2 < 0
        ·rw [if_pos c18] at H; have c18b0 : decide (a0_2 < 0) = true := decide_eq_true c18; clear c18
         obtain rfl := Option.some.inj H
         have hcz19_0 : wc.cell? ⟨gb250, 0, none⟩ = some (.int .i64 a0_0) := (blk_cell BK250.out 0).trans rfl; have hcz19_1 : wc.cell? ⟨gb250, 1, none⟩ = some (.int .i64 a0_1) := (blk_cell BK250.out 1).trans rfl; have hcz19_2 : wc.cell? ⟨gb250, 2, none⟩ = some (.int .i64 a0_2) := (blk_cell BK250.out 2).trans rfl; have hfz19_0 := blk_frozen BK250.out 0; have hfz19_1 := blk_frozen BK250.out 1; have hfz19_2 := blk_frozen BK250.out 2
         go_wp2
         go_ret
         exact en_
        ·rw [if_neg c18] at H; have c18b0 : decide (a0_2 < 0) = false := decide_eq_false c18; clear c18
         by_cases c20 : a0_2 > 59
         ·rw [if_pos c20] at H; have c20b0 : decide (59 < a0_2) = true := decide_eq_true c20; clear c20
          obtain rfl := Option.some.inj H
          have hcz21_0 : wc.cell? ⟨gb250, 0, none⟩ = some (.int .i64 a0_0) := (blk_cell BK250.out 0).trans rfl; have hcz21_1 : wc.cell? ⟨gb250, 1, none⟩ = some (.int .i64 a0_1) := (blk_cell BK250.out 1).trans rfl; have hcz21_2 : wc.cell? ⟨gb250, 2, none⟩ = some (.int .i64 a0_2) := (blk_cell BK250.out 2).trans rfl; have hfz21_0 := blk_frozen BK250.out 0; have hfz21_1 := blk_frozen BK250.out 1; have hfz21_2 := blk_frozen BK250.out 2
          go_wp2
          go_ret
          exact en_
         ·rw [if_neg c20] at H; have c20b0 : decide (59 < a0_2) = false := decide_eq_false c20; clear c20
          obtain rfl := Option.some.inj H
          have hcz22_0 : wc.cell? ⟨gb250, 0, none⟩ = some (.int .i64 a0_0) := (blk_cell BK250.out 0).trans rfl; have hcz22_1 : wc.cell? ⟨gb250, 1, none⟩ = some (.int .i64 a0_1) := (blk_cell BK250.out 1).trans rfl; have hcz22_2 : wc.cell? ⟨gb250, 2, none⟩ = some (.int .i64 a0_2) := (blk_cell BK250.out 2).trans rfl; have hfz22_0 := blk_frozen BK250.out 0; have hfz22_1 := blk_frozen BK250.out 1; have hfz22_2 := blk_frozen BK250.out 2
          go_wp2
          go_ret
          exact en_
end Go.Proofs.YtfjifhkgifefeaaGreatDoor.PA
end

section
namespace Go.Proofs.YtfjifhkgifefeaaGreatDoor.PA
open Giv Go.RowKit YtfjifhkgifefeaaGreatDoorW.PrintWords YtfjifhkgifefeaaGreatDoorW.PrintLast YtfjifhkgifefeaaGreatDoorW.PrintMore
attribute [local go_sem] max2_int min2_int max_two min_two max_three min_three max_four min_four
set_option linter.unusedVariables false
set_option linter.unusedSimpArgs false
def fuseeref08_Of.f (a0 : Int) : Option (Int × Int × Int) := if a0 = 86400 then (some (23, 59, 60)) else (some (wrap64 (Int.tdiv (wrap64 (Int.tdiv a0 60)) 60), Int.tmod (wrap64 (Int.tdiv a0 60)) 60, Int.tmod a0 60))
theorem fuseeref08_Of.calls (a0 : Int) (r1 : Int) (r2 : Int) (r3 : Int) (w : World) (h : fuseeref08_Of.f a0 = some (r1, r2, r3)) :
  Calls Tryz.prog 38 #[.int .i64 a0] w fun e w' => e = .returned (.agg #[.int .i64 r1, .int .i64 r2, .int .i64 r3]) ∧ Below w.heap.size w w' := by
 have hu49 := Tryz.underlying49; have HB := Aside0.mk (Below.refl w.heap.size w); have H := h; clear h; replace H : (if a0 = 86400 then (some (23, 59, 60)) else (some (wrap64 (Int.tdiv (wrap64 (Int.tdiv a0 60)) 60), Int.tmod (wrap64 (Int.tdiv a0 60)) 60, Int.tmod a0 60))) = some (r1, r2, r3) := H
 by_cases c2 : a0 = 86400
 ·rw [if_pos c2] at H; have c2b0 : (a0 == 86400) = true := beq_iff_eq.mpr c2; have c2b1 : (a0 != 86400) = false := bne_eq_false_iff_eq.mpr c2; clear c2; simp only [Option.some.injEq, Prod.mk.injEq] at H; obtain ⟨rfl, rfl, rfl⟩ := H
  go_enter Tryz.func38, Tryz.ntmps38
  go_wp2_with (first | ((with_reducible refine gate_dst (N := 2) rfl ?_); refine be_ (N := 2) (cs := #[.int .i64 0, .int .i64 0, .int .i64 0]) (t := 49) ?_; intro gb305 hg w3 hbox hb; have BK305 := Aside0.mk hbox; have GW305 := Aside0.mk (sz_ hg : w.heap.size ≤ gb305); have GE305 := GW305; replace HB := bs_ hb; clear hb hbox hg; have hcz4_0 : w3.cell? ⟨gb305, 0, none⟩ = some (.int .i64 0) := (blk_cell BK305.out 0).trans rfl; have hcz4_1 : w3.cell? ⟨gb305, 1, none⟩ = some (.int .i64 0) := (blk_cell BK305.out 1).trans rfl; have hcz4_2 : w3.cell? ⟨gb305, 2, none⟩ = some (.int .i64 0) := (blk_cell BK305.out 2).trans rfl; have hfz4_0 := blk_frozen BK305.out 0; have hfz4_1 := blk_frozen BK305.out 1; have hfz4_2 := blk_frozen BK305.out 2))
  refine bodyPost_ret (results_cell_row rfl _ _ gb305 49 #[.int .i64 23, .int .i64 59, .int .i64 60] (0, 0) _ rfl (by (with_reducible repeat first | apply blk_drewN | apply blk_drew | apply blk_alloc); refine blk_put (cs := #[.int .i64 23, .int .i64 59, .int .i64 0]) ?_ 2 _ rfl; (with_reducible repeat first | apply blk_drewN | apply blk_drew | apply blk_alloc); refine blk_put (cs := #[.int .i64 23, .int .i64 0, .int .i64 0]) ?_ 1 _ rfl; (with_reducible repeat first | apply blk_drewN | apply blk_drew | apply blk_alloc); refine blk_put (cs := #[.int .i64 0, .int .i64 0, .int .i64 0]) ?_ 0 _ rfl; (with_reducible repeat first | apply blk_drewN | apply blk_drew | apply blk_alloc); exact BK305.out) Tryz.underlying49 rfl (by kernel_rfl)) rfl ?_
  exact en_
 ·rw [if_neg c2] at H; have c2b0 : (a0 == 86400) = false := beq_eq_false_iff_ne.mpr c2; have c2b1 : (a0 != 86400) = true := bne_iff_ne.mpr c2; simp only [Option.some.injEq, Prod.mk.injEq] at H; obtain ⟨rfl, rfl, rfl⟩ := H
  go_enter Tryz.func38, Tryz.ntmps38
  go_wp2_with (first | ((with_reducible refine gate_dst (N := 2) rfl ?_); refine be_ (N := 2) (cs := #[.int .i64 0, .int .i64 0, .int .i64 0]) (t := 49) ?_; intro gb305 hg w5 hbox hb; have BK305 := Aside0.mk hbox; have GW305 := Aside0.mk (sz_ hg : w.heap.size ≤ gb305); have GE305 := GW305; replace HB := bs_ hb; clear hb hbox hg; have hcz6_0 : w5.cell? ⟨gb305, 0, none⟩ = some (.int .i64 0) := (blk_cell BK305.out 0).trans rfl; have hcz6_1 : w5.cell? ⟨gb305, 1, none⟩ = some (.int .i64 0) := (blk_cell BK305.out 1).trans rfl; have hcz6_2 : w5.cell? ⟨gb305, 2, none⟩ = some (.int .i64 0) := (blk_cell BK305.out 2).trans rfl; have hfz6_0 := blk_frozen BK305.out 0; have hfz6_1 := blk_frozen BK305.out 1; have hfz6_2 := blk_frozen BK305.out 2))
  refine bodyPost_ret (results_cell_row rfl _ _ gb305 49 #[.int .i64 (wrap64 (Int.tdiv (wrap64 (Int.tdiv a0 60)) 60)), .int .i64 (Int.tmod (wrap64 (Int.tdiv a0 60)) 60), .int .i64 (Int.tmod a0 60)] (0, 0) _ rfl (by (with_reducible repeat first | apply blk_drewN | apply blk_drew | apply blk_alloc); refine blk_put (cs := #[.int .i64 (wrap64 (Int.tdiv (wrap64 (Int.tdiv a0 60)) 60)), .int .i64 (Int.tmod (wrap64 (Int.tdiv a0 60)) 60), .int .i64 0]) ?_ 2 _ rfl; (with_reducible repeat first | apply blk_drewN | apply blk_drew | apply blk_alloc); refine blk_put (cs := #[.int .i64 (wrap64 (Int.tdiv (wrap64 (Int.tdiv a0 60)) 60)), .int .i64 0, .int .i64 0]) ?_ 1 _ rfl; (with_reducible repeat first | apply blk_drewN | apply blk_drew | apply blk_alloc); refine blk_put (cs := #[.int .i64 0, .int .i64 0, .int .i64 0]) ?_ 0 _ rfl; (with_reducible repeat first | apply blk_drewN | apply blk_drew | apply blk_alloc); exact BK305.out) Tryz.underlying49 rfl (by kernel_rfl)) rfl ?_
  exact en_
end Go.Proofs.YtfjifhkgifefeaaGreatDoor.PA
end

section
/- What the printed functions of daytime and of the document's chapter 8 answer: times, seconds, stamps. -/
namespace Go.Proofs.YtfjifhkgifefeaaGreatDoor.CivP
open Go.RowKit Go.Proofs.YtfjifhkgifefeaaGreatDoor.PA Go.Proofs.YtfjifhkgifefeaaGreatDoor.CivM Go.Proofs.YtfjifhkgifefeaaGreatDoor.StrM Go.Proofs.YtfjifhkgifefeaaGreatDoor.Giv Go.Proofs.YtfjifhkgifefeaaGreatDoorW.PrintWords
def tvld (h m s : Int) : Prop := (h = 23 ∧ m = 59 ∧ s = 60) ∨ (0 ≤ h ∧ h ≤ 23 ∧ 0 ≤ m ∧ m ≤ 59 ∧ 0 ≤ s ∧ s ≤ 59)
instance (h m s : Int) : Decidable (tvld h m s) := by unfold tvld; infer_instance
def tsec (h m s : Int) : Int := h * 3600 + m * 60 + s
def tod (n : Int) : Int × Int × Int := if n = 86400 then (23, 59, 60) else (n / 3600, n / 60 % 60, n % 60)
theorem tcheck (h m s : Int) : daytime_Check.f h m s = some (if tvld h m s then none else some 1) := by
  unfold daytime_Check.f
  by_cases v : tvld h m s
  · rw [if_pos v]
    unfold tvld at v
    by_cases c : (h == 23 && (m == 59 && (s == 60))) = true
    · rw [if_pos c]
    · rw [if_neg c]
      have c' : ¬ (h = 23 ∧ m = 59 ∧ s = 60) := by simpa [and_assoc] using c
      rw [if_neg (by omega), if_neg (by omega), if_neg (by omega), if_neg (by omega), if_neg (by omega), if_neg (by omega)]
  · rw [if_neg v]
    unfold tvld at v
    have c : ¬ (h == 23 && (m == 59 && (s == 60))) = true := by
      intro c
      exact v (.inl (by simpa [and_assoc] using c))
    rw [if_neg c]
    repeat (split; · rfl)
    omega
theorem tsec_bd (h m s : Int) (v : tvld h m s) : 0 ≤ tsec h m s ∧ tsec h m s ≤ 86400 := by unfold tvld at v; unfold tsec; omega
theorem tsec_tod (n : Int) (h0 : 0 ≤ n) (h1 : n ≤ 86400) : tsec (tod n).1 (tod n).2.1 (tod n).2.2 = n := by
  unfold tod tsec
  by_cases c : n = 86400
  · rw [if_pos c, c]; rfl
  · rw [if_neg c]; simp only; omega
theorem tod_vld (n : Int) (h0 : 0 ≤ n) (h1 : n ≤ 86400) : tvld (tod n).1 (tod n).2.1 (tod n).2.2 := by
  unfold tod tvld
  by_cases c : n = 86400
  · rw [if_pos c]; simp
  · rw [if_neg c]; simp only; omega
theorem tod_tsec (h m s : Int) (v : tvld h m s) : tod (tsec h m s) = (h, m, s) := by
  unfold tvld at v
  unfold tod tsec
  rcases v with ⟨rfl, rfl, rfl⟩ | v
  · rfl
  · rw [if_neg (by omega)]
    refine Prod.ext ?_ (Prod.ext ?_ ?_) <;> simp only <;> omega
theorem tseconds (h m s : Int) : daytime_Seconds.f h m s = some (if tvld h m s then (tsec h m s, none) else (0, some 1)) := by
  unfold daytime_Seconds.f
  rw [tcheck]; simp only [Option.bind_some]
  by_cases v : tvld h m s
  · rw [if_pos v, if_pos v]
    unfold tvld at v
    simp only [Option.isNone_none, if_true]; rw [wid (x := h * 3600) (by omega) (by omega), wid (x := m * 60) (by omega) (by omega), wid (x := h * 3600 + m * 60) (by omega) (by omega), wid (x := h * 3600 + m * 60 + s) (by omega) (by omega)]
    rfl
  · rw [if_neg v, if_neg v]; simp
theorem tof (k : Nat) (n : Int) (hk : 1 ≤ k) : daytime_Of.f k n = some (if n < 0 ∨ 86400 < n then (0, 0, 0, some 1) else ((tod n).1, (tod n).2.1, (tod n).2.2, none)) := by
  obtain ⟨k, rfl⟩ : ∃ j, k = j + 1 := ⟨k - 1, by omega⟩
  unfold daytime_Of.f
  clear hk
  by_cases a : n < 0
  · rw [if_pos a, if_pos (.inl a)]; rfl
  rw [if_neg a]; simp only [daytime_Of.j0, decide_eq_true_eq]
  by_cases b : n > 86400
  · rw [if_pos b, if_pos (.inr b)]
  rw [if_neg b]
  have nb : ¬ (n < 0 ∨ 86400 < n) := by omega
  rw [if_neg nb]
  unfold tod
  by_cases c : n = 86400
  · simp only [if_pos c]
  · simp only [if_neg c]
    simp (disch := omega) only [wid, tdv, tmd]
theorem rseconds (k : Nat) (h m s : Int) (hk : 1 ≤ k) : fuseeref08_Seconds.f k h m s = some (if tvld h m s then tsec h m s else -1) := by
  obtain ⟨k, rfl⟩ : ∃ j, k = j + 1 := ⟨k - 1, by omega⟩
  have J : ∀ b : Bool, (b = true ↔ (h = 23 ∧ m = 59 ∧ s = 60)) → fuseeref08_Seconds.j0 (k + 1) b h m s = some (if tvld h m s then tsec h m s else -1) := by
    intro b hb
    simp only [fuseeref08_Seconds.j0]
    by_cases c : b = true
    · rw [if_pos c]; obtain ⟨rfl, rfl, rfl⟩ := hb.1 c; rw [if_pos (.inl ⟨rfl, rfl, rfl⟩)]; rfl
    · rw [if_neg c]
      have c' := fun x => c (hb.2 x)
      by_cases v : tvld h m s
      · rw [if_pos v]
        unfold tvld at v
        have v2 := v.resolve_left c'; rw [if_neg (by omega), if_neg (by omega), if_neg (by omega), if_neg (by omega), if_neg (by omega), if_neg (by omega)]; rw [wid (x := h * 60) (by omega) (by omega), wid (x := h * 60 + m) (by omega) (by omega), wid (x := (h * 60 + m) * 60) (by omega) (by omega), wid (x := (h * 60 + m) * 60 + s) (by omega) (by omega)]
        congr 1; unfold tsec; omega
      · rw [if_neg v]
        unfold tvld at v
        repeat (split; · rfl)
        omega
  unfold fuseeref08_Seconds.f
  by_cases a : h = 23
  · rw [if_pos a]
    by_cases b : m = 59
    · rw [if_pos b]; exact J _ (by simp [a, b])
    · rw [if_neg b]; exact J _ (by simp [b])
  · rw [if_neg a]; exact J _ (by simp [a])
theorem rtof (n : Int) (h0 : 0 ≤ n) (h1 : n ≤ 86400) : fuseeref08_Of.f n = some (tod n) := by
  unfold fuseeref08_Of.f tod
  by_cases c : n = 86400
  · rw [if_pos c, if_pos c]
  · rw [if_neg c, if_neg c]
    simp (disch := omega) only [wid, tdv, tmd]
    have e : n / 60 / 60 = n / 3600 := by omega
    rw [e]
/-- A number with so many digits, as daytime tells it. -/
theorem tdigits (n : Int) (w : Nat) (h0 : 0 ≤ n) (h1 : n < 10 ^ (w + 1)) (hw : w + 1 ≤ 18) : daytime_digits.f n ((w + 1 : Nat) : Int) = some ⟨(digs (w + 1) n).toArray⟩ := by
  have hl := itoa_le w n h0 h1
  have hb : (10 : Int) ^ (w + 1) ≤ 1000000000000000000 := by
    have := Nat.pow_le_pow_right (n := 10) (by omega) hw
    have e : ((10 ^ (w + 1) : Nat) : Int) = (10 : Int) ^ (w + 1) := by simp
    have e2 : (10 : Nat) ^ 18 = 1000000000000000000 := by decide
    omega
  unfold daytime_digits.f strconv_FormatInt.f
  rw [if_pos ⟨rfl, by omega, by omega⟩]; simp only [Option.bind_some, ba_size]; rw [wid (by omega) (by omega)]
  have em : mx 0 (((w + 1 : Nat) : Int) - ((Lib.itoa n).length : Int)) = ((w + 1 : Nat) : Int) - ((Lib.itoa n).length : Int) := by unfold mx; omega
  rw [em]
  unfold strings_Repeat.f
  have e1 : (((w + 1 : Nat) : Int) - ((Lib.itoa n).length : Int)).toNat = w + 1 - (Lib.itoa n).length := by omega
  rw [e1]; have e2 : (⟨#[48]⟩ : ByteArray).size = 1 := rfl; rw [e2, if_pos ⟨by omega, by omega, by omega⟩]; simp only [Option.bind_some]; rw [ba_size, ba_app]
  have e4 : (Lib.repeatL [48] (w + 1 - (Lib.itoa n).length)).length = 1 * (w + 1 - (Lib.itoa n).length) := by simp [Lib.repeatL_length]
  have hp := padded_eq w n h0 h1
  unfold padded at hp
  rw [e4, if_pos (by omega)]; have e5 : (⟨#[48]⟩ : ByteArray).data.toList = [48] := rfl
  first | rw [hp] | (rw [e5, hp])
end Go.Proofs.YtfjifhkgifefeaaGreatDoor.CivP
end

section
namespace Go.Proofs.YtfjifhkgifefeaaGreatDoor.PA
open Giv Go.RowKit YtfjifhkgifefeaaGreatDoorW.PrintWords YtfjifhkgifefeaaGreatDoorW.PrintLast YtfjifhkgifefeaaGreatDoorW.PrintMore
attribute [local go_sem] max2_int min2_int max_two min_two max_three min_three max_four min_four
set_option linter.unusedVariables false
set_option linter.unusedSimpArgs false
mutual
def fuseeref07_Of.j0 : Nat → Int → Bool → Option (Int × Int × Int × Int)
 | 0, _, _ => none
 | k + 1, x0, x12 => if x12 = true then (some (0, 0, 0, 2)) else (fuseeref07_Of.l0 k (wrap64 (x0 + 719162)) 1 1 1)
def fuseeref07_Of.j2 : Nat → Int → Int → Int → Int → Option (Int × Int × Int × Int)
 | 0, _, _, _, _ => none
 | k + 1, x4, x176000, x176001, x176002 => fuseeref07_Of.l1 k x4 x176000 x176001 x176002
def fuseeref07_Of.l1 : Nat → Int → Int → Int → Int → Option (Int × Int × Int × Int)
 | 0, _, _, _, _ => none
 | k + 1, x4, x176000, x176001, x176002 => (fuseeref07_Month.f k x176000 x176001).bind fun t177 => (if x4 ≥ t177 then ((fuseeref07_Month.f k x176000 x176001).bind fun t178 => (fuseeref07_Of.l1 k (wrap64 (x4 - t178)) x176000 (wrap64 (x176001 + 1)) x176002)) else (some (x176000, x176001, wrap64 (1 + x4), 0)))
def fuseeref07_Of.l0 : Nat → Int → Int → Int → Int → Option (Int × Int × Int × Int)
 | 0, _, _, _, _ => none
 | k + 1, x4, x176000, x176001, x176002 => (fuseeref07_Leap.f x176000).bind fun t176 => (if t176 = true then (if x4 < 366 then (fuseeref07_Of.j2 k x4 x176000 x176001 x176002) else (fuseeref07_Of.l0 k (wrap64 (x4 - 366)) (wrap64 (x176000 + 1)) x176001 x176002)) else (if x4 < 365 then (fuseeref07_Of.j2 k x4 x176000 x176001 x176002) else (fuseeref07_Of.l0 k (wrap64 (x4 - 365)) (wrap64 (x176000 + 1)) x176001 x176002)))
end
def fuseeref07_Of.f (k : Nat) (a0 : Int) : Option (Int × Int × Int × Int) := if a0 < (-719162) then (fuseeref07_Of.j0 k a0 true) else (fuseeref07_Of.j0 k a0 (decide (a0 > 2932896)))
theorem fuseeref07_Of.calls (k : Nat) (a0 : Int) (r1 : Int) (r2 : Int) (r3 : Int) (r4 : Int) (w : World) (h : fuseeref07_Of.f k a0 = some (r1, r2, r3, r4)) :
  Calls Tryz.prog 25 #[.int .i64 a0] w fun e w' => e = .returned (.tuple #[.agg #[.int .i64 r1, .int .i64 r2, .int .i64 r3], .int .i64 r4]) ∧ Below w.heap.size w w' := by
 have hu23 := Tryz.underlying23; have HB := Aside0.mk (Below.refl w.heap.size w); have H := h; clear h; replace H : (if a0 < (-719162) then (fuseeref07_Of.j0 k a0 true) else (fuseeref07_Of.j0 k a0 (decide (a0 > 2932896)))) = some (r1, r2, r3, r4) := H; have HC2 := Aside0.mk H; clear H
 go_enter Tryz.func25, Tryz.ntmps25
 go_upto_region 1 with (first | ((with_reducible refine gate_dst (N := 2) rfl ?_); refine be_ (N := 2) (cs := #[.int .i64 0, .int .i64 0, .int .i64 0]) (t := 23) ?_; intro gb174 hg w3 hbox hb; have BK174 := Aside0.mk hbox; have GW174 := Aside0.mk (sz_ hg : w.heap.size ≤ gb174); have GE174 := GW174; replace HB := bs_ hb; clear hb hbox hg))
 (try simp only [Act.put, List.setIfInBounds_toArray, List.set_cons_zero, List.set_cons_succ])
 go_cut [12] (fun v12 wc => ∃ (kq : Nat) (x12_1 : Bool), v12 = .bool x12_1 ∧ Aside0 (fuseeref07_Of.j0 kq a0 x12_1 = some (r1, r2, r3, r4)) ∧ Aside0 (kq ≤ k) ∧ Aside0 (wc.heap[gb174]? = some (.cells #[.int .i64 0, .int .i64 0, .int .i64 0] 23 (0, 0))) ∧ Aside0 (Below w.heap.size w wc))
 case first =>
  have H := HC2.out; clear HC2
  by_cases c4 : a0 < (-719162)
  ·rw [if_pos c4] at H; have c4b0 : decide (a0 < (-719162)) = true := decide_eq_true c4; clear c4
   (first | rw [c4b0] | (simp only [i64_w, i32_w]; rw [c4b0]) | skip)
   have H' := Aside0.mk H; clear H
   go_wp2
   go_meet
   case rel => exact ⟨_, (true), rs_, H', ⟨by first | omega | exact Nat.le_refl _⟩, ⟨bk_⟩, ⟨bl_⟩⟩
  ·rw [if_neg c4] at H; have c4b0 : decide (a0 < (-719162)) = false := decide_eq_false c4; clear c4
   (first | rw [c4b0] | (simp only [i64_w, i32_w]; rw [c4b0]) | skip)
   have H' := Aside0.mk H; clear H
   go_wp2
   go_meet
   case rel => exact ⟨_, (decide (a0 > 2932896)), rs_, H', ⟨by first | omega | exact Nat.le_refl _⟩, ⟨bk_⟩, ⟨bl_⟩⟩
 case rest =>
  clear HC2; (try clear c2); (try clear p2); (try clear c4); (try clear c4b0); obtain ⟨kq, x12_1, rfl, HA, HJ1, BK174, HB⟩ := hcut
  cases kq with
  | zero => exact absurd HA.out (by simp [fuseeref07_Of.j0])
  | succ kj1 =>
   have H := HA.out; clear HA; simp only [fuseeref07_Of.j0] at H
   by_cases c5 : x12_1 = true
   ·subst c5
    have H1 : (some (0, 0, 0, 2)) = some (r1, r2, r3, r4) := by rw [if_pos rfl] at H; exact H
    clear H; have H := H1; clear H1; simp only [Option.some.injEq, Prod.mk.injEq] at H; obtain ⟨rfl, rfl, rfl, rfl⟩ := H; have hcz6_0 : wc.cell? ⟨gb174, 0, none⟩ = some (.int .i64 0) := (blk_cell BK174.out 0).trans rfl; have hcz6_1 : wc.cell? ⟨gb174, 1, none⟩ = some (.int .i64 0) := (blk_cell BK174.out 1).trans rfl; have hcz6_2 : wc.cell? ⟨gb174, 2, none⟩ = some (.int .i64 0) := (blk_cell BK174.out 2).trans rfl; have hfz6_0 := blk_frozen BK174.out 0; have hfz6_1 := blk_frozen BK174.out 1; have hfz6_2 := blk_frozen BK174.out 2
    go_wp2
    refine bodyPost_ret (results_ct rfl _ _ gb174 23 #[.int .i64 0, .int .i64 0, .int .i64 0] (0, 0) _ rfl (by (with_reducible repeat first | apply blk_drewN | apply blk_drew | apply blk_alloc); refine blk_put (cs := #[.int .i64 0, .int .i64 0, .int .i64 0]) ?_ 2 _ rfl; (with_reducible repeat first | apply blk_drewN | apply blk_drew | apply blk_alloc); refine blk_put (cs := #[.int .i64 0, .int .i64 0, .int .i64 0]) ?_ 1 _ rfl; (with_reducible repeat first | apply blk_drewN | apply blk_drew | apply blk_alloc); refine blk_put (cs := #[.int .i64 0, .int .i64 0, .int .i64 0]) ?_ 0 _ rfl; (with_reducible repeat first | apply blk_drewN | apply blk_drew | apply blk_alloc); exact BK174.out) Tryz.underlying23 rfl (by kernel_rfl)) rfl ?_
    exact en_
   ·replace c5 := Bool.eq_false_iff.mpr c5; subst c5
    have H1 : (fuseeref07_Of.l0 kj1 (wrap64 (a0 + 719162)) 1 1 1) = some (r1, r2, r3, r4) := by rw [if_neg (show ¬ (false = true) by decide)] at H; exact H
    clear H; have H := H1; clear H1; have HC7 := Aside0.mk H; clear H
    go_upto_block 0 with (first | ((with_reducible refine gate_dst (N := 5) rfl ?_); refine be_ (N := 5) (cs := #[.int .i64 0, .int .i64 0, .int .i64 0]) (t := 23) ?_; intro gb175 hg w8 hbox hb; have BK175 := Aside0.mk hbox; have GW175 := Aside0.mk (sz_ hg : w.heap.size ≤ gb175); have GE175 := GW175; have NB174_175 := Aside0.mk ((by rw [hg]; exact Nat.ne_of_lt (blk_lt (g := gb174) (o := .cells #[.int .i64 0, .int .i64 0, .int .i64 0] 23 (0, 0)) bk_) : gb174 ≠ gb175)); have NB175_174 := Aside0.mk ((by rw [hg]; exact Nat.ne_of_gt (blk_lt (g := gb174) (o := .cells #[.int .i64 0, .int .i64 0, .int .i64 0] 23 (0, 0)) bk_) : gb175 ≠ gb174)); replace BK174 := bb_ BK174.out hb; replace HB := bs_ hb; clear hb hbox hg; have hnb9 := NB175_174.out; have hnc9 := NB174_175.out; have hcz10_0 : w8.cell? ⟨gb175, 0, none⟩ = some (.int .i64 0) := (blk_cell BK175.out 0).trans rfl; have hcz10_1 : w8.cell? ⟨gb175, 1, none⟩ = some (.int .i64 0) := (blk_cell BK175.out 1).trans rfl; have hcz10_2 : w8.cell? ⟨gb175, 2, none⟩ = some (.int .i64 0) := (blk_cell BK175.out 2).trans rfl; have hfz10_0 := blk_frozen BK175.out 0; have hfz10_1 := blk_frozen BK175.out 1; have hfz10_2 := blk_frozen BK175.out 2))
    (try simp only [Act.put, List.setIfInBounds_toArray, List.set_cons_zero, List.set_cons_succ])
    go_cut [4] (fun v4 wc => ∃ (kq : Nat) (x4_6 : Int) (x176000_6 : Int), v4 = .int .i64 x4_6 ∧ Aside0 (fuseeref07_Of.j2 kq x4_6 x176000_6 1 1 = some (r1, r2, r3, r4)) ∧ Aside0 (kq ≤ kj1) ∧ Aside0 (wc.heap[gb174]? = some (.cells #[.int .i64 0, .int .i64 0, .int .i64 0] 23 (0, 0))) ∧ Aside0 (wc.heap[gb175]? = some (.cells #[.int .i64 x176000_6, .int .i64 1, .int .i64 1] 23 (0, 0))) ∧ Aside0 (Below w.heap.size w wc))
    case first =>
     have H := HC7.out; clear HC7; have H' := Aside0.mk H; clear H
     go_wp2
     go_loopg [4] kj1 (fun kq v4 w' => ∃ (x4_2 : Int) (x176000_2 : Int), v4 = .int .i64 x4_2 ∧ Aside0 (fuseeref07_Of.l0 kq x4_2 x176000_2 1 1 = some (r1, r2, r3, r4)) ∧ Aside0 (kq ≤ kj1) ∧ Aside0 (w'.heap[gb174]? = some (.cells #[.int .i64 0, .int .i64 0, .int .i64 0] 23 (0, 0))) ∧ Aside0 (w'.heap[gb175]? = some (.cells #[.int .i64 x176000_2, .int .i64 1, .int .i64 1] 23 (0, 0))) ∧ Aside0 (Below w.heap.size w w'))
     case atStart => exact ⟨(wrap64 (a0 + 719162)), (1), rs_, H', ⟨Nat.le_refl _⟩, ⟨by (with_reducible repeat first | apply blk_drewN | apply blk_drew | apply blk_alloc); refine blk_far ?_ NB174_175.out _; (with_reducible repeat first | apply blk_drewN | apply blk_drew | apply blk_alloc); refine blk_far ?_ NB174_175.out _; (with_reducible repeat first | apply blk_drewN | apply blk_drew | apply blk_alloc); refine blk_far ?_ NB174_175.out _; (with_reducible repeat first | apply blk_drewN | apply blk_drew | apply blk_alloc); exact BK174.out⟩, ⟨by (with_reducible repeat first | apply blk_drewN | apply blk_drew | apply blk_alloc); refine blk_put (cs := #[.int .i64 1, .int .i64 1, .int .i64 0]) ?_ 2 _ rfl; (with_reducible repeat first | apply blk_drewN | apply blk_drew | apply blk_alloc); refine blk_put (cs := #[.int .i64 1, .int .i64 0, .int .i64 0]) ?_ 1 _ rfl; (with_reducible repeat first | apply blk_drewN | apply blk_drew | apply blk_alloc); refine blk_put (cs := #[.int .i64 0, .int .i64 0, .int .i64 0]) ?_ 0 _ rfl; (with_reducible repeat first | apply blk_drewN | apply blk_drew | apply blk_alloc); exact BK175.out⟩, ⟨bl_⟩⟩
     case round =>
      clear H'; (try clear c2); (try clear p2); (try clear c4); (try clear c4b0); (try clear c5); (try clear p6); (try clear c9); (try clear hcz10_0); (try clear hcz10_1); (try clear hcz10_2); (try clear hcz6_0); (try clear hcz6_1); (try clear hcz6_2); (try clear hfz10_0); (try clear hfz10_1); (try clear hfz10_2); (try clear hfz6_0); (try clear hfz6_1); (try clear hfz6_2); (try clear p2); obtain ⟨x4_2, x176000_2, rfl, HA, HK2, BK174, BK175, HB⟩ := hrel
      cases gk with
      | zero => exact absurd HA.out (by simp [fuseeref07_Of.l0])
      | succ k2 =>
       have H := HA.out; clear HA; simp only [fuseeref07_Of.l0] at H; replace H := Option.bind_eq_some_iff.mp H; obtain ⟨t176, A110, H⟩ := H; (try dsimp only at H); have A11 := Aside0.mk A110; clear A110
       by_cases c12 : t176 = true
       ·subst c12
        have H1 : (if x4_2 < 366 then (fuseeref07_Of.j2 k2 x4_2 x176000_2 1 1) else (fuseeref07_Of.l0 k2 (wrap64 (x4_2 - 366)) (wrap64 (x176000_2 + 1)) 1 1)) = some (r1, r2, r3, r4) := by rw [if_pos rfl] at H; exact H
        clear H; have H := H1; clear H1
        by_cases c13 : x4_2 < 366
        ·rw [if_pos c13] at H; have c13b0 : decide (x4_2 < 366) = true := decide_eq_true c13; clear c13
         (first | rw [c13b0] | (simp only [i64_w, i32_w]; rw [c13b0]) | skip)
         have H' := Aside0.mk H; clear H; have hnb14 := NB175_174.out; have hnc14 := NB174_175.out; have hcz15_0 : wr.cell? ⟨gb175, 0, none⟩ = some (.int .i64 x176000_2) := (blk_cell BK175.out 0).trans rfl; have hcz15_1 : wr.cell? ⟨gb175, 1, none⟩ = some (.int .i64 1) := (blk_cell BK175.out 1).trans rfl; have hcz15_2 : wr.cell? ⟨gb175, 2, none⟩ = some (.int .i64 1) := (blk_cell BK175.out 2).trans rfl; have hfz15_0 := blk_frozen BK175.out 0; have hfz15_1 := blk_frozen BK175.out 1; have hfz15_2 := blk_frozen BK175.out 2
         go_wp2_with (first | ((with_reducible refine gate_callee (f := 21) rfl ?_); refine gc_ (some 19) Tryz.func21 (fuseeref07_Leap.calls x176000_2 true _ A11.out) ?_; rintro e w' ⟨rfl, ⟨nd, rfl⟩⟩; refine ⟨_, rfl, ?_⟩))
         go_meet
         case rel => exact ⟨_, (x4_2), (x176000_2), rs_, H', ⟨by have := HJ1.out; have := HK2.out; first | omega | exact Nat.le_refl _⟩, ⟨bk_⟩, ⟨bk_⟩, ⟨bl_⟩⟩
        ·rw [if_neg c13] at H; have c13b0 : decide (x4_2 < 366) = false := decide_eq_false c13; clear c13
         (first | rw [c13b0] | (simp only [i64_w, i32_w]; rw [c13b0]) | skip)
         have H' := Aside0.mk H; clear H; have hnb16 := NB175_174.out; have hnc16 := NB174_175.out; have hcz17_0 : wr.cell? ⟨gb175, 0, none⟩ = some (.int .i64 x176000_2) := (blk_cell BK175.out 0).trans rfl; have hcz17_1 : wr.cell? ⟨gb175, 1, none⟩ = some (.int .i64 1) := (blk_cell BK175.out 1).trans rfl; have hcz17_2 : wr.cell? ⟨gb175, 2, none⟩ = some (.int .i64 1) := (blk_cell BK175.out 2).trans rfl; have hfz17_0 := blk_frozen BK175.out 0; have hfz17_1 := blk_frozen BK175.out 1; have hfz17_2 := blk_frozen BK175.out 2
         go_wp2_with (first | ((with_reducible refine gate_callee (f := 21) rfl ?_); refine gc_ (some 19) Tryz.func21 (fuseeref07_Leap.calls x176000_2 true _ A11.out) ?_; rintro e w' ⟨rfl, ⟨nd, rfl⟩⟩; refine ⟨_, rfl, ?_⟩; (try (rw [drewN_self wr]; generalize hq_ : World.drewN wr _ = wr; have n0_ : Aside0 (wr.heap[gb174]? = some (.cells #[.int .i64 0, .int .i64 0, .int .i64 0] 23 (0, 0))) := ⟨by rw [← hq_]; exact bk_⟩; have n1_ : Aside0 (wr.heap[gb175]? = some (.cells #[.int .i64 x176000_2, .int .i64 1, .int .i64 1] 23 (0, 0))) := ⟨by rw [← hq_]; exact bk_⟩; have n2_ : Aside0 (Below w.heap.size w wr) := ⟨by rw [← hq_]; exact bl_⟩; clear BK174 BK175 HB hq_; have BK174 := n0_; have BK175 := n1_; have HB := n2_; clear n0_ n1_ n2_; have hczq_BK174_0 : wr.cell? ⟨gb174, 0, none⟩ = some (.int .i64 0) := (blk_cell BK174.out 0).trans rfl; have hfzq_BK174_0 := blk_frozen BK174.out 0; have hczq_BK174_1 : wr.cell? ⟨gb174, 1, none⟩ = some (.int .i64 0) := (blk_cell BK174.out 1).trans rfl; have hfzq_BK174_1 := blk_frozen BK174.out 1; have hczq_BK174_2 : wr.cell? ⟨gb174, 2, none⟩ = some (.int .i64 0) := (blk_cell BK174.out 2).trans rfl; have hfzq_BK174_2 := blk_frozen BK174.out 2; have hczq_BK175_0 : wr.cell? ⟨gb175, 0, none⟩ = some (.int .i64 x176000_2) := (blk_cell BK175.out 0).trans rfl; have hfzq_BK175_0 := blk_frozen BK175.out 0; have hczq_BK175_1 : wr.cell? ⟨gb175, 1, none⟩ = some (.int .i64 1) := (blk_cell BK175.out 1).trans rfl; have hfzq_BK175_1 := blk_frozen BK175.out 1; have hczq_BK175_2 : wr.cell? ⟨gb175, 2, none⟩ = some (.int .i64 1) := (blk_cell BK175.out 2).trans rfl; have hfzq_BK175_2 := blk_frozen BK175.out 2))))
         go_roundg k2
         case measure => have := HJ1.out; have := HK2.out; omega
         case rel => exact ⟨(wrap64 (x4_2 - 366)), (wrap64 (x176000_2 + 1)), rs_, H', ⟨by have := HJ1.out; have := HK2.out; omega⟩, ⟨by (with_reducible repeat first | apply blk_drewN | apply blk_drew | apply blk_alloc); refine blk_far ?_ NB174_175.out _; (with_reducible repeat first | apply blk_drewN | apply blk_drew | apply blk_alloc); exact BK174.out⟩, ⟨by (with_reducible repeat first | apply blk_drewN | apply blk_drew | apply blk_alloc); refine blk_put (cs := #[.int .i64 x176000_2, .int .i64 1, .int .i64 1]) ?_ 0 _ rfl; (with_reducible repeat first | apply blk_drewN | apply blk_drew | apply blk_alloc); exact BK175.out⟩, ⟨bl_⟩⟩
       ·replace c12 := Bool.eq_false_iff.mpr c12; subst c12
        have H1 : (if x4_2 < 365 then (fuseeref07_Of.j2 k2 x4_2 x176000_2 1 1) else (fuseeref07_Of.l0 k2 (wrap64 (x4_2 - 365)) (wrap64 (x176000_2 + 1)) 1 1)) = some (r1, r2, r3, r4) := by rw [if_neg (show ¬ (false = true) by decide)] at H; exact H
        clear H; have H := H1; clear H1
        by_cases c18 : x4_2 < 365
        ·rw [if_pos c18] at H; have c18b0 : decide (x4_2 < 365) = true := decide_eq_true c18; clear c18; have H' := Aside0.mk H; clear H; have hnb19 := NB175_174.out; have hnc19 := NB174_175.out; have hcz20_0 : wr.cell? ⟨gb175, 0, none⟩ = some (.int .i64 x176000_2) := (blk_cell BK175.out 0).trans rfl; have hcz20_1 : wr.cell? ⟨gb175, 1, none⟩ = some (.int .i64 1) := (blk_cell BK175.out 1).trans rfl; have hcz20_2 : wr.cell? ⟨gb175, 2, none⟩ = some (.int .i64 1) := (blk_cell BK175.out 2).trans rfl; have hfz20_0 := blk_frozen BK175.out 0; have hfz20_1 := blk_frozen BK175.out 1; have hfz20_2 := blk_frozen BK175.out 2
         go_wp2_with (first | ((with_reducible refine gate_callee (f := 21) rfl ?_); refine gc_ (some 19) Tryz.func21 (fuseeref07_Leap.calls x176000_2 false _ A11.out) ?_; rintro e w' ⟨rfl, ⟨nd, rfl⟩⟩; refine ⟨_, rfl, ?_⟩))
         go_meet
         case rel => exact ⟨_, (x4_2), (x176000_2), rs_, H', ⟨by have := HJ1.out; have := HK2.out; first | omega | exact Nat.le_refl _⟩, ⟨bk_⟩, ⟨bk_⟩, ⟨bl_⟩⟩
        ·rw [if_neg c18] at H; have c18b0 : decide (x4_2 < 365) = false := decide_eq_false c18; clear c18; have H' := Aside0.mk H; clear H; have hnb21 := NB175_174.out; have hnc21 := NB174_175.out; have hcz22_0 : wr.cell? ⟨gb175, 0, none⟩ = some (.int .i64 x176000_2) := (blk_cell BK175.out 0).trans rfl; have hcz22_1 : wr.cell? ⟨gb175, 1, none⟩ = some (.int .i64 1) := (blk_cell BK175.out 1).trans rfl; have hcz22_2 : wr.cell? ⟨gb175, 2, none⟩ = some (.int .i64 1) := (blk_cell BK175.out 2).trans rfl; have hfz22_0 := blk_frozen BK175.out 0; have hfz22_1 := blk_frozen BK175.out 1; have hfz22_2 := blk_frozen BK175.out 2
         go_wp2_with (first | ((with_reducible refine gate_callee (f := 21) rfl ?_); refine gc_ (some 19) Tryz.func21 (fuseeref07_Leap.calls x176000_2 false _ A11.out) ?_; rintro e w' ⟨rfl, ⟨nd, rfl⟩⟩; refine ⟨_, rfl, ?_⟩; (try (rw [drewN_self wr]; generalize hq_ : World.drewN wr _ = wr; have n0_ : Aside0 (wr.heap[gb174]? = some (.cells #[.int .i64 0, .int .i64 0, .int .i64 0] 23 (0, 0))) := ⟨by rw [← hq_]; exact bk_⟩; have n1_ : Aside0 (wr.heap[gb175]? = some (.cells #[.int .i64 x176000_2, .int .i64 1, .int .i64 1] 23 (0, 0))) := ⟨by rw [← hq_]; exact bk_⟩; have n2_ : Aside0 (Below w.heap.size w wr) := ⟨by rw [← hq_]; exact bl_⟩; clear BK174 BK175 HB hq_; have BK174 := n0_; have BK175 := n1_; have HB := n2_; clear n0_ n1_ n2_; have hczq_BK174_0 : wr.cell? ⟨gb174, 0, none⟩ = some (.int .i64 0) := (blk_cell BK174.out 0).trans rfl; have hfzq_BK174_0 := blk_frozen BK174.out 0; have hczq_BK174_1 : wr.cell? ⟨gb174, 1, none⟩ = some (.int .i64 0) := (blk_cell BK174.out 1).trans rfl; have hfzq_BK174_1 := blk_frozen BK174.out 1; have hczq_BK174_2 : wr.cell? ⟨gb174, 2, none⟩ = some (.int .i64 0) := (blk_cell BK174.out 2).trans rfl; have hfzq_BK174_2 := blk_frozen BK174.out 2; have hczq_BK175_0 : wr.cell? ⟨gb175, 0, none⟩ = some (.int .i64 x176000_2) := (blk_cell BK175.out 0).trans rfl; have hfzq_BK175_0 := blk_frozen BK175.out 0; have hczq_BK175_1 : wr.cell? ⟨gb175, 1, none⟩ = some (.int .i64 1) := (blk_cell BK175.out 1).trans rfl; have hfzq_BK175_1 := blk_frozen BK175.out 1; have hczq_BK175_2 : wr.cell? ⟨gb175, 2, none⟩ = some (.int .i64 1) := (blk_cell BK175.out 2).trans rfl; have hfzq_BK175_2 := blk_frozen BK175.out 2))))
         go_roundg k2
         case measure => have := HJ1.out; have := HK2.out; omega
         case rel => exact ⟨(wrap64 (x4_2 - 365)), (wrap64 (x176000_2 + 1)), rs_, H', ⟨by have := HJ1.out; have := HK2.out; omega⟩, ⟨by (with_reducible repeat first | apply blk_drewN | apply blk_drew | apply blk_alloc); refine blk_far ?_ NB174_175.out _; (with_reducible repeat first | apply blk_drewN | apply blk_drew | apply blk_alloc); exact BK174.out⟩, ⟨by (with_reducible repeat first | apply blk_drewN | apply blk_drew | apply blk_alloc); refine blk_put (cs := #[.int .i64 x176000_2, .int .i64 1, .int .i64 1]) ?_ 0 _ rfl; (with_reducible repeat first | apply blk_drewN | apply blk_drew | apply blk_alloc); exact BK175.out⟩, ⟨bl_⟩⟩
    case rest =>
     clear HC7; (try clear c1); (try clear c2); (try clear p2); (try clear c4); (try clear c4b0); (try clear c5); (try clear p6); (try clear c9); (try clear c12); (try clear c13); (try clear c13b0); (try clear c14); (try clear c16); (try clear c18); (try clear c18b0); (try clear c19); (try clear c21); (try clear hcz10_0); (try clear hcz10_1); (try clear hcz10_2); (try clear hcz15_0); (try clear hcz15_1); (try clear hcz15_2); (try clear hcz17_0); (try clear hcz17_1); (try clear hcz17_2); (try clear hcz20_0); (try clear hcz20_1); (try clear hcz20_2); (try clear hcz22_0); (try clear hcz22_1); (try clear hcz22_2); (try clear hcz6_0); (try clear hcz6_1); (try clear hcz6_2); (try clear hfz10_0); (try clear hfz10_1); (try clear hfz10_2); (try clear hfz15_0); (try clear hfz15_1); (try clear hfz15_2); (try clear hfz17_0); (try clear hfz17_1); (try clear hfz17_2); (try clear hfz20_0); (try clear hfz20_1); (try clear hfz20_2); (try clear hfz22_0); (try clear hfz22_1); (try clear hfz22_2); (try clear hfz6_0); (try clear hfz6_1); (try clear hfz6_2); (try clear p2); (try clear p6); obtain ⟨kq, x4_6, x176000_6, rfl, HA, HJ6, BK174, BK175, HB⟩ := hcut
     cases kq with
     | zero => exact absurd HA.out (by simp [fuseeref07_Of.j2])
     | succ kj6 =>
      have H := HA.out; clear HA; simp only [fuseeref07_Of.j2] at H; have H' := Aside0.mk H; clear H
      go_wp2
      go_loopg [4] kj6 (fun kq v4 w' => ∃ (x4_3 : Int) (x176001_3 : Int), v4 = .int .i64 x4_3 ∧ Aside0 (fuseeref07_Of.l1 kq x4_3 x176000_6 x176001_3 1 = some (r1, r2, r3, r4)) ∧ Aside0 (kq ≤ kj6) ∧ Aside0 (w'.heap[gb174]? = some (.cells #[.int .i64 0, .int .i64 0, .int .i64 0] 23 (0, 0))) ∧ Aside0 (w'.heap[gb175]? = some (.cells #[.int .i64 x176000_6, .int .i64 x176001_3, .int .i64 1] 23 (0, 0))) ∧ Aside0 (Below w.heap.size w w'))
      case atStart => exact ⟨(x4_6), (1), rs_, H', ⟨Nat.le_refl _⟩, ⟨bk_⟩, ⟨bk_⟩, ⟨bl_⟩⟩
      case round =>
       clear H'; (try clear c1); (try clear c2); (try clear p2); (try clear c4); (try clear c4b0); (try clear c5); (try clear p6); (try clear c9); (try clear c12); (try clear c13); (try clear c13b0); (try clear c14); (try clear c16); (try clear c18); (try clear c18b0); (try clear c19); (try clear c21); (try clear hcz10_0); (try clear hcz10_1); (try clear hcz10_2); (try clear hcz15_0); (try clear hcz15_1); (try clear hcz15_2); (try clear hcz17_0); (try clear hcz17_1); (try clear hcz17_2); (try clear hcz20_0); (try clear hcz20_1); (try clear hcz20_2); (try clear hcz22_0); (try clear hcz22_1); (try clear hcz22_2); (try clear hcz6_0); (try clear hcz6_1); (try clear hcz6_2); (try clear hfz10_0); (try clear hfz10_1); (try clear hfz10_2); (try clear hfz15_0); (try clear hfz15_1); (try clear hfz15_2); (try clear hfz17_0); (try clear hfz17_1); (try clear hfz17_2); (try clear hfz20_0); (try clear hfz20_1); (try clear hfz20_2); (try clear hfz22_0); (try clear hfz22_1); (try clear hfz22_2); (try clear hfz6_0); (try clear hfz6_1); (try clear hfz6_2); (try clear p2); (try clear p6); obtain ⟨x4_3, x176001_3, rfl, HA, HK3, BK174, BK175, HB⟩ := hrel
       cases gk with
       | zero => exact absurd HA.out (by simp [fuseeref07_Of.l1])
       | succ k3 =>
        have H := HA.out; clear HA; simp only [fuseeref07_Of.l1] at H; replace H := Option.bind_eq_some_iff.mp H; obtain ⟨t177, A230, H⟩ := H; (try dsimp only at H); have A23 := Aside0.mk A230; clear A230
        by_cases c24 : x4_3 ≥ t177
        ·rw [if_pos c24] at H; have c24b0 : decide (t177 ≤ x4_3) = true := decide_eq_true c24; clear c24; replace H := Option.bind_eq_some_iff.mp H; obtain ⟨t178, A250, H⟩ := H; (try dsimp only at H); have A25 := Aside0.mk A250; clear A250; have H' := Aside0.mk H; clear H; have hnb26 := NB175_174.out; have hnc26 := NB174_175.out; have hcz27_0 : wr.cell? ⟨gb175, 0, none⟩ = some (.int .i64 x176000_6) := (blk_cell BK175.out 0).trans rfl; have hcz27_1 : wr.cell? ⟨gb175, 1, none⟩ = some (.int .i64 x176001_3) := (blk_cell BK175.out 1).trans rfl; have hcz27_2 : wr.cell? ⟨gb175, 2, none⟩ = some (.int .i64 1) := (blk_cell BK175.out 2).trans rfl; have hfz27_0 := blk_frozen BK175.out 0; have hfz27_1 := blk_frozen BK175.out 1; have hfz27_2 := blk_frozen BK175.out 2
         go_wp2_with (first | ((with_reducible refine gate_callee (f := 19) rfl ?_); refine gd_ (some 35) Tryz.func19 (fuseeref07_Month.calls k3 x176000_6 x176001_3 t177 _ A23.out) ?_; intro w28 hb; replace BK174 := bb_ BK174.out hb; replace BK175 := bb_ BK175.out hb; replace HB := bs_ hb; (try clear hb); have hcz29_0 : w28.cell? ⟨gb175, 0, none⟩ = some (.int .i64 x176000_6) := (blk_cell BK175.out 0).trans rfl; have hcz29_1 : w28.cell? ⟨gb175, 1, none⟩ = some (.int .i64 x176001_3) := (blk_cell BK175.out 1).trans rfl; have hcz29_2 : w28.cell? ⟨gb175, 2, none⟩ = some (.int .i64 1) := (blk_cell BK175.out 2).trans rfl; have hfz29_0 := blk_frozen BK175.out 0; have hfz29_1 := blk_frozen BK175.out 1; have hfz29_2 := blk_frozen BK175.out 2) | ((with_reducible refine gate_callee (f := 19) rfl ?_); refine gd_ (some 42) Tryz.func19 (fuseeref07_Month.calls k3 x176000_6 x176001_3 t178 _ A25.out) ?_; intro w30 hb; replace BK174 := bb_ BK174.out hb; replace BK175 := bb_ BK175.out hb; replace HB := bs_ hb; (try clear hb); have hcz31_0 : w30.cell? ⟨gb175, 0, none⟩ = some (.int .i64 x176000_6) := (blk_cell BK175.out 0).trans rfl; have hcz31_1 : w30.cell? ⟨gb175, 1, none⟩ = some (.int .i64 x176001_3) := (blk_cell BK175.out 1).trans rfl; have hcz31_2 : w30.cell? ⟨gb175, 2, none⟩ = some (.int .i64 1) := (blk_cell BK175.out 2).trans rfl; have hfz31_0 := blk_frozen BK175.out 0; have hfz31_1 := blk_frozen BK175.out 1; have hfz31_2 := blk_frozen BK175.out 2))
         go_roundg k3
         case measure => have := HJ1.out; have := HJ6.out; have := HK3.out; omega
         case rel => exact ⟨(wrap64 (x4_3 - t178)), (wrap64 (x176001_3 + 1)), rs_, H', ⟨by have := HJ1.out; have := HJ6.out; have := HK3.out; omega⟩, ⟨by (with_reducible repeat first | apply blk_drewN | apply blk_drew | apply blk_alloc); refine blk_far ?_ NB174_175.out _; (with_reducible repeat first | apply blk_drewN | apply blk_drew | apply blk_alloc); exact BK174.out⟩, ⟨by (with_reducible repeat first | apply blk_drewN | apply blk_drew | apply blk_alloc); refine blk_put (cs := #[.int .i64 x176000_6, .int .i64 x176001_3, .int .i64 1]) ?_ 1 _ rfl; (with_reducible repeat first | apply blk_drewN | apply blk_drew | apply blk_alloc); exact BK175.out⟩, ⟨bl_⟩⟩
        ·rw [if_neg c24] at H; have c24b0 : decide (t177 ≤ x4_3) = false := decide_eq_false c24; clear c24; simp only [Option.some.injEq, Prod.mk.injEq] at H; obtain ⟨rfl, rfl, rfl, rfl⟩ := H; have hnb32 := NB175_174.out; have hnc32 := NB174_175.out; have hcz33_0 : wr.cell? ⟨gb175, 0, none⟩ = some (.int .i64 x176000_6) := (blk_cell BK175.out 0).trans rfl; have hcz33_1 : wr.cell? ⟨gb175, 1, none⟩ = some (.int .i64 x176001_3) := (blk_cell BK175.out 1).trans rfl; have hcz33_2 : wr.cell? ⟨gb175, 2, none⟩ = some (.int .i64 1) := (blk_cell BK175.out 2).trans rfl; have hfz33_0 := blk_frozen BK175.out 0; have hfz33_1 := blk_frozen BK175.out 1; have hfz33_2 := blk_frozen BK175.out 2
         go_wp2_with (first | ((with_reducible refine gate_callee (f := 19) rfl ?_); refine gd_ (some 35) Tryz.func19 (fuseeref07_Month.calls k3 x176000_6 x176001_3 t177 _ A23.out) ?_; intro w34 hb; replace BK174 := bb_ BK174.out hb; replace BK175 := bb_ BK175.out hb; replace HB := bs_ hb; (try clear hb); have hcz35_0 : w34.cell? ⟨gb175, 0, none⟩ = some (.int .i64 x176000_6) := (blk_cell BK175.out 0).trans rfl; have hcz35_1 : w34.cell? ⟨gb175, 1, none⟩ = some (.int .i64 x176001_3) := (blk_cell BK175.out 1).trans rfl; have hcz35_2 : w34.cell? ⟨gb175, 2, none⟩ = some (.int .i64 1) := (blk_cell BK175.out 2).trans rfl; have hfz35_0 := blk_frozen BK175.out 0; have hfz35_1 := blk_frozen BK175.out 1; have hfz35_2 := blk_frozen BK175.out 2; have hcz36_0 : w34.cell? ⟨gb174, 0, none⟩ = some (.int .i64 0) := (blk_cell BK174.out 0).trans rfl; have hcz36_1 : w34.cell? ⟨gb174, 1, none⟩ = some (.int .i64 0) := (blk_cell BK174.out 1).trans rfl; have hcz36_2 : w34.cell? ⟨gb174, 2, none⟩ = some (.int .i64 0) := (blk_cell BK174.out 2).trans rfl; have hfz36_0 := blk_frozen BK174.out 0; have hfz36_1 := blk_frozen BK174.out 1; have hfz36_2 := blk_frozen BK174.out 2))
         refine bodyPost_ret (results_ct rfl _ _ gb174 23 #[.int .i64 x176000_6, .int .i64 x176001_3, .int .i64 (wrap64 (1 + x4_3))] (0, 0) _ rfl (by (with_reducible repeat first | apply blk_drewN | apply blk_drew | apply blk_alloc); refine blk_put (cs := #[.int .i64 x176000_6, .int .i64 x176001_3, .int .i64 0]) ?_ 2 _ rfl; (with_reducible repeat first | apply blk_drewN | apply blk_drew | apply blk_alloc); refine blk_put (cs := #[.int .i64 x176000_6, .int .i64 0, .int .i64 0]) ?_ 1 _ rfl; (with_reducible repeat first | apply blk_drewN | apply blk_drew | apply blk_alloc); refine blk_put (cs := #[.int .i64 0, .int .i64 0, .int .i64 0]) ?_ 0 _ rfl; (with_reducible repeat first | apply blk_drewN | apply blk_drew | apply blk_alloc); refine blk_far ?_ NB174_175.out _; (with_reducible repeat first | apply blk_drewN | apply blk_drew | apply blk_alloc); exact BK174.out) Tryz.underlying23 rfl (by kernel_rfl)) rfl ?_
         exact en_
end Go.Proofs.YtfjifhkgifefeaaGreatDoor.PA
end

section
/- The document's date of a day, year by year and month by month: it is the one date of that day. -/
namespace Go.Proofs.YtfjifhkgifefeaaGreatDoor.CivP
open Go.RowKit Go.Proofs.YtfjifhkgifefeaaGreatDoor.PA Go.Proofs.YtfjifhkgifefeaaGreatDoor.CivM Go.Proofs.YtfjifhkgifefeaaGreatDoorW.PrintWords
theorem rof_l1 (k : Nat) : ∀ (x4 y m d : Int), 1 ≤ y → y ≤ 9999 → 1 ≤ m → m ≤ 12 → 0 ≤ x4 → x4 + cum y m < 365 + lpI y → (13 - m).toNat + 1 < k →
    ∃ m' d', vld y m' d' ∧ num y m' d' = dby y + cum y m + x4 - 719162 ∧ fuseeref07_Of.l1 k x4 y m d = some (y, m', d', 0) := by
  induction k with
  | zero => intro x4 y m d _ _ _ _ _ _ h; omega
  | succ k ih =>
    intro x4 y m d h1 h2 h3 h4 h5 h6 h7
    have hd := dim_bd y m; have e := cum_succ y m h3 h4; have L := lpI_01 y; have c0 := cum_le y m 1 h3 h4 (by omega) (by have := dim_pos y m h3 h4; omega); simp only [fuseeref07_Of.l1]; rw [rmonth k y m (by omega)]; simp only [Option.bind_some]
    by_cases h : x4 ≥ dim y m
    · rw [if_pos h, wid (by omega) (by omega), wid (by omega) (by omega)]
      have hm : m + 1 ≤ 12 := by
        rcases Int.lt_or_le 12 (m + 1) with c | c
        · have : m = 12 := by omega
          subst this; rw [show (12 : Int) + 1 = 13 from rfl, cum_13] at e; omega
        · exact c
      obtain ⟨m', d', v, hn, r⟩ := ih (x4 - dim y m) y (m + 1) d h1 h2 (by omega) hm (by omega) (by omega) (by omega)
      exact ⟨m', d', v, by rw [hn, e]; omega, r⟩
    · rw [if_neg h, wid (by omega) (by omega)]
      exact ⟨m, 1 + x4, ⟨h1, h2, h3, h4, by omega, by omega⟩, by unfold num; omega, rfl⟩
theorem rof_l0 (k : Nat) : ∀ (x4 y : Int), 1 ≤ y → y ≤ 9999 → 0 ≤ x4 → dby y + x4 ≤ 3652058 → (10000 - y).toNat + 20 ≤ k →
    ∃ y' m' d', vld y' m' d' ∧ num y' m' d' = dby y + x4 - 719162 ∧ fuseeref07_Of.l0 k x4 y 1 1 = some (y', m', d', 0) := by
  induction k with
  | zero => intro x4 y _ _ _ _ h; omega
  | succ k ih =>
    intro x4 y h1 h2 h3 h4 h5
    have L := lpI_01 y; have e := dby_succ y
    have hb : 0 ≤ dby y := by
      have := dby_mono 1 y h1
      have e4 : dby 1 = 0 := by decide
      omega
    have nxt : x4 ≥ 365 + lpI y → y + 1 ≤ 9999 := by
      intro c
      rcases Int.lt_or_le 9999 (y + 1) with q | q
      · have := dby_mono 10000 (y + 1) (by omega)
        have e3 : dby 10000 = 3652059 := by decide
        omega
      · exact q
    have stop : x4 < 365 + lpI y → ∃ y' m' d', vld y' m' d' ∧ num y' m' d' = dby y + x4 - 719162 ∧ fuseeref07_Of.j2 k x4 y 1 1 = some (y', m', d', 0) := by
      intro c
      obtain ⟨k, rfl⟩ : ∃ j, k = j + 1 := ⟨k - 1, by omega⟩
      obtain ⟨m', d', v, hn, r⟩ := rof_l1 k x4 y 1 1 h1 h2 (by omega) (by omega) h3 (by rw [cum_one]; omega) (by omega); rw [cum_one] at hn
      exact ⟨y, m', d', v, by omega, r⟩
    simp only [fuseeref07_Of.l0]; rw [rleap]; simp only [Option.bind_some]
    by_cases hl : lpI y = 1
    · rw [decide_eq_true hl]; simp only [if_true]
      by_cases h : x4 < 366
      · rw [if_pos h]; exact stop (by omega)
      · rw [if_neg h, wid (by omega) (by omega), wid (by omega) (by omega)]; have := nxt (by omega); obtain ⟨y', m', d', v, hn, r⟩ := ih (x4 - 366) (y + 1) (by omega) (by omega) (by omega) (by omega) (by omega)
        exact ⟨y', m', d', v, by rw [hn]; omega, r⟩
    · rw [decide_eq_false hl]; simp only [Bool.false_eq_true, if_false]
      by_cases h : x4 < 365
      · rw [if_pos h]; exact stop (by omega)
      · rw [if_neg h, wid (by omega) (by omega), wid (by omega) (by omega)]; have := nxt (by omega); obtain ⟨y', m', d', v, hn, r⟩ := ih (x4 - 365) (y + 1) (by omega) (by omega) (by omega) (by omega) (by omega)
        exact ⟨y', m', d', v, by rw [hn]; omega, r⟩
theorem rof_ok (k : Nat) (n : Int) (hk : 20001 ≤ k) (h0 : -719162 ≤ n) (h1 : n ≤ 2932896) : ∃ y m d, vld y m d ∧ num y m d = n ∧ fuseeref07_Of.f k n = some (y, m, d, 0) := by
  obtain ⟨k, rfl⟩ : ∃ j, k = j + 1 := ⟨k - 1, by omega⟩
  unfold fuseeref07_Of.f
  rw [if_neg (by omega), decide_eq_false (by omega)]; simp only [fuseeref07_Of.j0, Bool.false_eq_true, if_false]; rw [wid (by omega) (by omega)]
  have e4 : dby 1 = 0 := by decide
  obtain ⟨y, m, d, v, hn, r⟩ := rof_l0 k (n + 719162) 1 (by omega) (by omega) (by omega) (by omega) (by omega)
  exact ⟨y, m, d, v, by rw [hn]; omega, r⟩
theorem rof_no (k : Nat) (n : Int) (hk : 1 ≤ k) (h : n < -719162 ∨ 2932896 < n) : fuseeref07_Of.f k n = some (0, 0, 0, 2) := by
  obtain ⟨k, rfl⟩ : ∃ j, k = j + 1 := ⟨k - 1, by omega⟩
  unfold fuseeref07_Of.f
  by_cases c : n < -719162
  · rw [if_pos c]; rfl
  · rw [if_neg c, decide_eq_true (by omega)]; rfl
end Go.Proofs.YtfjifhkgifefeaaGreatDoor.CivP
end

section
namespace Go.Proofs.YtfjifhkgifefeaaGreatDoor.PA
open Giv Go.RowKit YtfjifhkgifefeaaGreatDoorW.PrintWords YtfjifhkgifefeaaGreatDoorW.PrintLast YtfjifhkgifefeaaGreatDoorW.PrintMore
attribute [local go_sem] max2_int min2_int max_two min_two max_three min_three max_four min_four
set_option linter.unusedVariables false
set_option linter.unusedSimpArgs false
def fuseeref07_Two.l0 : Nat → Int → Int → ByteArray → Int → Option (ByteArray)
 | 0, _, _, _, _ => none
 | k + 1, x0, x1, x5, x6 => if x6 < x1 then (if 0 ≤ (Int.tmod x0 10) then (if (Int.tmod x0 10) ≤ (wrap64 ((Int.tmod x0 10) + 1)) then (if (wrap64 ((Int.tmod x0 10) + 1)) ≤ 10 then (if ((⟨#[48, 49, 50, 51, 52, 53, 54, 55, 56, 57]⟩ : ByteArray).extract ((Int.tmod x0 10) : Int).toNat ((wrap64 ((Int.tmod x0 10) + 1)) : Int).toNat).size + x5.size ≤ 9223372036854775807 then (fuseeref07_Two.l0 k (wrap64 (Int.tdiv x0 10)) x1 (((⟨#[48, 49, 50, 51, 52, 53, 54, 55, 56, 57]⟩ : ByteArray).extract ((Int.tmod x0 10) : Int).toNat ((wrap64 ((Int.tmod x0 10) + 1)) : Int).toNat) ++ x5) (wrap64 (x6 + 1))) else (none)) else (none)) else (none)) else (none)) else (some x5)
def fuseeref07_Two.f (k : Nat) (a0 : Int) (a1 : Int) : Option (ByteArray) := fuseeref07_Two.l0 k a0 a1 (⟨#[]⟩ : ByteArray) 0
theorem fuseeref07_Two.calls (k : Nat) (a0 : Int) (a1 : Int) (r : ByteArray) (w : World) (h : fuseeref07_Two.f k a0 a1 = some r) :
  Calls Tryz.prog 99 #[.int .i64 a0, .int .i64 a1] w fun e w' => e = .returned (.string r) ∧ Drawn0 w w' := by
 have H := h; clear h; replace H : (fuseeref07_Two.l0 k a0 a1 (⟨#[]⟩ : ByteArray) 0) = some r := H; have H' := Aside0.mk H; clear H
 go_enter Tryz.func99, Tryz.ntmps99
 go_wp2
 go_loopg [0, 5, 6] k (fun kq v0 v5 v6 w' => ∃ (x0_1 : Int) (x5_1 : ByteArray) (x6_1 : Int), v0 = .int .i64 x0_1 ∧ v5 = .string x5_1 ∧ v6 = .int .i64 x6_1 ∧ Aside0 (fuseeref07_Two.l0 kq x0_1 a1 x5_1 x6_1 = some r) ∧ Aside0 (kq ≤ k) ∧ Drawn0 w w')
 case atStart => exact ⟨(a0), ((⟨#[]⟩ : ByteArray)), (0), rs_, rs_, rs_, H', ⟨Nat.le_refl _⟩, by repeat (first | exact Drawn0.refl _ | apply Drawn0.step)⟩
 case round =>
  clear H'; (try clear p2); obtain ⟨x0_1, x5_1, x6_1, rfl, rfl, rfl, HA, HK1, ⟨m1, rfl⟩⟩ := hrel
  cases gk with
  | zero => exact absurd HA.out (by simp [fuseeref07_Two.l0])
  | succ k1 =>
   have H := HA.out; clear HA; simp only [fuseeref07_Two.l0] at H
   by_cases c3 : x6_1 < a1
   ·rw [if_pos c3] at H; have c3b0 : decide (x6_1 < a1) = true := decide_eq_true c3; clear c3
    obtain ⟨ji4, hji4⟩ : ∃ j_ : Int, (Int.tmod x0_1 10) = j_ := ⟨_, rfl⟩
    replace H : (if 0 ≤ (ji4) then (if (ji4) ≤ (wrap64 ((ji4) + 1)) then (if (wrap64 ((ji4) + 1)) ≤ 10 then (if ((⟨#[48, 49, 50, 51, 52, 53, 54, 55, 56, 57]⟩ : ByteArray).extract ((ji4) : Int).toNat ((wrap64 ((ji4) + 1)) : Int).toNat).size + x5_1.size ≤ 9223372036854775807 then (fuseeref07_Two.l0 k1 (wrap64 (Int.tdiv x0_1 10)) a1 (((⟨#[48, 49, 50, 51, 52, 53, 54, 55, 56, 57]⟩ : ByteArray).extract ((ji4) : Int).toNat ((wrap64 ((ji4) + 1)) : Int).toNat) ++ x5_1) (wrap64 (x6_1 + 1))) else (none)) else (none)) else (none)) else (none)) = some r := by first | (rw [hji4] at H; exact H) | (simp only [hji4] at H ⊢; exact H)
    by_cases c5 : 0 ≤ (ji4)
    ·rw [if_pos c5] at H; have c5b0 := eq_true c5; have c5b1 : decide (0 ≤ (ji4)) = true := decide_eq_true c5; clear c5
     by_cases c6 : (ji4) ≤ (wrap64 ((ji4) + 1))
     ·rw [if_pos c6] at H; have c6b0 := eq_true c6; have c6b1 : decide ((ji4) ≤ (wrap64 ((ji4) + 1))) = true := decide_eq_true c6
      by_cases c7 : (wrap64 ((ji4) + 1)) ≤ 10
      ·rw [if_pos c7] at H; have c7b0 := eq_true c7; have c7b1 : decide ((wrap64 ((ji4) + 1)) ≤ 10) = true := decide_eq_true c7
       by_cases c8 : ((⟨#[48, 49, 50, 51, 52, 53, 54, 55, 56, 57]⟩ : ByteArray).extract ((ji4) : Int).toNat ((wrap64 ((ji4) + 1)) : Int).toNat).size + x5_1.size ≤ 9223372036854775807
       ·rw [if_pos c8] at H; have c8b0 := eq_true c8; have c8b1 : decide (((⟨#[48, 49, 50, 51, 52, 53, 54, 55, 56, 57]⟩ : ByteArray).extract ((ji4) : Int).toNat ((wrap64 ((ji4) + 1)) : Int).toNat).size + x5_1.size ≤ 9223372036854775807) = true := decide_eq_true c8
        try have c8b2 : (9223372036854775807 < ((⟨#[48, 49, 50, 51, 52, 53, 54, 55, 56, 57]⟩ : ByteArray).extract ((ji4) : Int).toNat ((wrap64 ((ji4) + 1)) : Int).toNat).size + x5_1.size) = False := eq_false (Nat.not_lt.2 c8)
        have H' := Aside0.mk H; clear H
        go_wp2
        go_roundg k1
        case measure => have := HK1.out; omega
        case rel => exact ⟨(wrap64 (Int.tdiv x0_1 10)), (((⟨#[48, 49, 50, 51, 52, 53, 54, 55, 56, 57]⟩ : ByteArray).extract ((ji4) : Int).toNat ((wrap64 ((ji4) + 1)) : Int).toNat) ++ x5_1), (wrap64 (x6_1 + 1)), rs_, (by first | rfl | (simp; done) | (simp only [← hji4] <;> (first | rfl | simp)) | (simp [*]; done)), rs_, H', ⟨by have := HK1.out; omega⟩, by repeat (first | exact Drawn0.refl _ | apply Drawn0.step)⟩
       ·rw [if_neg c8] at H; exact absurd H (by simp)
      ·rw [if_neg c7] at H; exact absurd H (by simp)
     ·rw [if_neg c6] at H; exact absurd H (by simp)
    ·rw [if_neg c5] at H; exact absurd H (by simp)
   ·rw [if_neg c3] at H; have c3b0 : decide (x6_1 < a1) = false := decide_eq_false c3; clear c3
    obtain rfl := Option.some.inj H
    go_wp2
    go_ret
    exact ed_
end Go.Proofs.YtfjifhkgifefeaaGreatDoor.PA
end

section
namespace Go.Proofs.YtfjifhkgifefeaaGreatDoor.PA
open Giv Go.RowKit YtfjifhkgifefeaaGreatDoorW.PrintWords YtfjifhkgifefeaaGreatDoorW.PrintLast YtfjifhkgifefeaaGreatDoorW.PrintMore
attribute [local go_sem] max2_int min2_int max_two min_two max_three min_three max_four min_four
set_option linter.unusedVariables false
set_option linter.unusedSimpArgs false
def fuseeref07_Text.f (k : Nat) (a0_0 : Int) (a0_1 : Int) (a0_2 : Int) : Option (ByteArray) := (fuseeref07_Two.f k a0_0 4).bind fun t220 => (if t220.size + 1 ≤ 9223372036854775807 then ((fuseeref07_Two.f k a0_1 2).bind fun t221 => (if (t220 ++ (⟨#[45]⟩ : ByteArray)).size + t221.size ≤ 9223372036854775807 then (if ((t220 ++ (⟨#[45]⟩ : ByteArray)) ++ t221).size + 1 ≤ 9223372036854775807 then ((fuseeref07_Two.f k a0_2 2).bind fun t222 => (if (((t220 ++ (⟨#[45]⟩ : ByteArray)) ++ t221) ++ (⟨#[45]⟩ : ByteArray)).size + t222.size ≤ 9223372036854775807 then (some ((((t220 ++ (⟨#[45]⟩ : ByteArray)) ++ t221) ++ (⟨#[45]⟩ : ByteArray)) ++ t222)) else (none))) else (none)) else (none))) else (none))
theorem fuseeref07_Text.calls (k : Nat) (a0_0 : Int) (a0_1 : Int) (a0_2 : Int) (r : ByteArray) (w : World) (h : fuseeref07_Text.f k a0_0 a0_1 a0_2 = some r) :
  Calls Tryz.prog 29 #[.agg #[.int .i64 a0_0, .int .i64 a0_1, .int .i64 a0_2]] w fun e w' => e = .returned (.string r) ∧ Below w.heap.size w w' := by
 have hu23 := Tryz.underlying23; have HB := Aside0.mk (Below.refl w.heap.size w); have H := h; clear h
 unfold fuseeref07_Text.f at H
 replace H := Option.bind_eq_some_iff.mp H; obtain ⟨t220, A20, H⟩ := H; (try dsimp only at H); have A2 := Aside0.mk A20; clear A20
 by_cases c3 : t220.size + 1 ≤ 9223372036854775807
 ·rw [if_pos c3] at H; have c3b0 := eq_true c3; have c3b1 : decide (t220.size + 1 ≤ 9223372036854775807) = true := decide_eq_true c3
  try have c3b2 : (9223372036854775807 < t220.size + 1) = False := eq_false (Nat.not_lt.2 c3)
  replace H := Option.bind_eq_some_iff.mp H; obtain ⟨t221, A40, H⟩ := H; (try dsimp only at H); have A4 := Aside0.mk A40; clear A40
  by_cases c5 : (t220 ++ (⟨#[45]⟩ : ByteArray)).size + t221.size ≤ 9223372036854775807
  ·rw [if_pos c5] at H; have c5b0 := eq_true c5; have c5b1 : decide ((t220 ++ (⟨#[45]⟩ : ByteArray)).size + t221.size ≤ 9223372036854775807) = true := decide_eq_true c5
   try have c5b2 : (9223372036854775807 < (t220 ++ (⟨#[45]⟩ : ByteArray)).size + t221.size) = False := eq_false (Nat.not_lt.2 c5)
   try have c5b3 : (9223372036854775807 < t220.size + 1 + t221.size) = False := eq_false (by have q_ := c5; simp only [ByteArray.size_append] at q_; exact Nat.not_lt.2 q_)
   by_cases c6 : ((t220 ++ (⟨#[45]⟩ : ByteArray)) ++ t221).size + 1 ≤ 9223372036854775807
   ·rw [if_pos c6] at H; have c6b0 := eq_true c6; have c6b1 : decide (((t220 ++ (⟨#[45]⟩ : ByteArray)) ++ t221).size + 1 ≤ 9223372036854775807) = true := decide_eq_true c6
    try have c6b2 : (9223372036854775807 < ((t220 ++ (⟨#[45]⟩ : ByteArray)) ++ t221).size + 1) = False := eq_false (Nat.not_lt.2 c6)
    try have c6b3 : (9223372036854775807 < t220.size + 1 + t221.size + 1) = False := eq_false (by have q_ := c6; simp only [ByteArray.size_append] at q_; exact Nat.not_lt.2 q_)
    replace H := Option.bind_eq_some_iff.mp H; obtain ⟨t222, A70, H⟩ := H; (try dsimp only at H); have A7 := Aside0.mk A70; clear A70
    by_cases c8 : (((t220 ++ (⟨#[45]⟩ : ByteArray)) ++ t221) ++ (⟨#[45]⟩ : ByteArray)).size + t222.size ≤ 9223372036854775807
    ·rw [if_pos c8] at H; have c8b0 := eq_true c8; have c8b1 : decide ((((t220 ++ (⟨#[45]⟩ : ByteArray)) ++ t221) ++ (⟨#[45]⟩ : ByteArray)).size + t222.size ≤ 9223372036854775807) = true := decide_eq_true c8
     try have c8b2 : (9223372036854775807 < (((t220 ++ (⟨#[45]⟩ : ByteArray)) ++ t221) ++ (⟨#[45]⟩ : ByteArray)).size + t222.size) = False := eq_false (Nat.not_lt.2 c8)
     try have c8b3 : (9223372036854775807 < t220.size + 1 + t221.size + 1 + t222.size) = False := eq_false (by have q_ := c8; simp only [ByteArray.size_append] at q_; exact Nat.not_lt.2 q_)
     obtain rfl := Option.some.inj H
     go_enter Tryz.func29, Tryz.ntmps29
     go_wp2_with (first | ((with_reducible refine gate_dst (N := 1) rfl ?_); refine be_ (N := 1) (cs := #[.int .i64 a0_0, .int .i64 a0_1, .int .i64 a0_2]) (t := 23) ?_; intro gb219 hg w9 hbox hb; have BK219 := Aside0.mk hbox; have GW219 := Aside0.mk (sz_ hg : w.heap.size ≤ gb219); have GE219 := GW219; replace HB := bs_ hb; clear hb hbox hg; have hcz10_0 : w9.cell? ⟨gb219, 0, none⟩ = some (.int .i64 a0_0) := (blk_cell BK219.out 0).trans rfl; have hcz10_1 : w9.cell? ⟨gb219, 1, none⟩ = some (.int .i64 a0_1) := (blk_cell BK219.out 1).trans rfl; have hcz10_2 : w9.cell? ⟨gb219, 2, none⟩ = some (.int .i64 a0_2) := (blk_cell BK219.out 2).trans rfl; have hfz10_0 := blk_frozen BK219.out 0; have hfz10_1 := blk_frozen BK219.out 1; have hfz10_2 := blk_frozen BK219.out 2) | (go_at_call 99; (with_reducible refine (fuseeref07_Two.calls k a0_0 4 t220 _ A2.out).mono ?_); rintro e w' ⟨rfl, ⟨nd, rfl⟩⟩; (try exact dn_)) | (go_at_call 99; (with_reducible refine (fuseeref07_Two.calls k a0_1 2 t221 _ A4.out).mono ?_); rintro e w' ⟨rfl, ⟨nd, rfl⟩⟩; (try exact dn_)) | (go_at_call 99; (with_reducible refine (fuseeref07_Two.calls k a0_2 2 t222 _ A7.out).mono ?_); rintro e w' ⟨rfl, ⟨nd, rfl⟩⟩; (try exact dn_)))
     repeat (go_quiet (first | (go_at_call 99; (with_reducible refine (fuseeref07_Two.calls k a0_0 4 t220 _ A2.out).mono ?_); rintro e w' ⟨rfl, ⟨nd, rfl⟩⟩; (try exact dn_)) | (go_at_call 99; (with_reducible refine (fuseeref07_Two.calls k a0_1 2 t221 _ A4.out).mono ?_); rintro e w' ⟨rfl, ⟨nd, rfl⟩⟩; (try exact dn_)) | (go_at_call 99; (with_reducible refine (fuseeref07_Two.calls k a0_2 2 t222 _ A7.out).mono ?_); rintro e w' ⟨rfl, ⟨nd, rfl⟩⟩; (try exact dn_))); try go_wp2_with (first | ((with_reducible refine gate_dst (N := 1) rfl ?_); refine be_ (N := 1) (cs := #[.int .i64 a0_0, .int .i64 a0_1, .int .i64 a0_2]) (t := 23) ?_; intro gb219 hg w9 hbox hb; have BK219 := Aside0.mk hbox; have GW219 := Aside0.mk (sz_ hg : w.heap.size ≤ gb219); have GE219 := GW219; replace HB := bs_ hb; clear hb hbox hg; have hcz10_0 : w9.cell? ⟨gb219, 0, none⟩ = some (.int .i64 a0_0) := (blk_cell BK219.out 0).trans rfl; have hcz10_1 : w9.cell? ⟨gb219, 1, none⟩ = some (.int .i64 a0_1) := (blk_cell BK219.out 1).trans rfl; have hcz10_2 : w9.cell? ⟨gb219, 2, none⟩ = some (.int .i64 a0_2) := (blk_cell BK219.out 2).trans rfl; have hfz10_0 := blk_frozen BK219.out 0; have hfz10_1 := blk_frozen BK219.out 1; have hfz10_2 := blk_frozen BK219.out 2) | (go_at_call 99; (with_reducible refine (fuseeref07_Two.calls k a0_0 4 t220 _ A2.out).mono ?_); rintro e w' ⟨rfl, ⟨nd, rfl⟩⟩; (try exact dn_)) | (go_at_call 99; (with_reducible refine (fuseeref07_Two.calls k a0_1 2 t221 _ A4.out).mono ?_); rintro e w' ⟨rfl, ⟨nd, rfl⟩⟩; (try exact dn_)) | (go_at_call 99; (with_reducible refine (fuseeref07_Two.calls k a0_2 2 t222 _ A7.out).mono ?_); rintro e w' ⟨rfl, ⟨nd, rfl⟩⟩; (try exact dn_))))
     go_ret
     exact en_
    ·rw [if_neg c8] at H; exact absurd H (by simp)
   ·rw [if_neg c6] at H; exact absurd H (by simp)
  ·rw [if_neg c5] at H; exact absurd H (by simp)
 ·rw [if_neg c3] at H; exact absurd H (by simp)
end Go.Proofs.YtfjifhkgifefeaaGreatDoor.PA
end

section
namespace Go.Proofs.YtfjifhkgifefeaaGreatDoor.PA
open Giv Go.RowKit YtfjifhkgifefeaaGreatDoorW.PrintWords YtfjifhkgifefeaaGreatDoorW.PrintLast YtfjifhkgifefeaaGreatDoorW.PrintMore
attribute [local go_sem] max2_int min2_int max_two min_two max_three min_three max_four min_four
set_option linter.unusedVariables false
set_option linter.unusedSimpArgs false
def fuseeref07_Digits.l0 : Nat → ByteArray → Int → Int → Option (Int)
 | 0, _, _, _ => none
 | k + 1, x0, x3, x4 => if x4 < (x0.size : Int) then (if 0 ≤ x4 then (if (bt x0 x4) < 48 then (some (-1)) else (if (bt x0 x4) > 57 then (some (-1)) else (if x3 > 100000000 then (some (-1)) else (fuseeref07_Digits.l0 k x0 (wrap64 ((wrap64 (10 * x3)) + (((bt x0 x4) - 48) % 256))) (wrap64 (x4 + 1)))))) else (none)) else (some x3)
def fuseeref07_Digits.f (k : Nat) (a0 : ByteArray) : Option (Int) := fuseeref07_Digits.l0 k a0 0 0
theorem fuseeref07_Digits.calls (k : Nat) (a0 : ByteArray) (r : Int) (w : World) (h : fuseeref07_Digits.f k a0 = some r) :
  Calls Tryz.prog 98 #[.string a0] w fun e w' => e = .returned (.int .i64 r) ∧ Drawn0 w w' := by
 have H := h; clear h; replace H : (fuseeref07_Digits.l0 k a0 0 0) = some r := H; have H' := Aside0.mk H; clear H
 go_enter Tryz.func98, Tryz.ntmps98
 go_wp2
 go_loopg [3, 4] k (fun kq v3 v4 w' => ∃ (x3_1 : Int) (x4_1 : Int), v3 = .int .i64 x3_1 ∧ v4 = .int .i64 x4_1 ∧ Aside0 (fuseeref07_Digits.l0 kq a0 x3_1 x4_1 = some r) ∧ Aside0 (kq ≤ k) ∧ Drawn0 w w')
 case atStart => exact ⟨(0), (0), rs_, rs_, H', ⟨Nat.le_refl _⟩, by repeat (first | exact Drawn0.refl _ | apply Drawn0.step)⟩
 case round =>
  clear H'; obtain ⟨x3_1, x4_1, rfl, rfl, HA, HK1, ⟨m1, rfl⟩⟩ := hrel
  cases gk with
  | zero => exact absurd HA.out (by simp [fuseeref07_Digits.l0])
  | succ k1 =>
   have H := HA.out; clear HA; simp only [fuseeref07_Digits.l0] at H
   by_cases c2 : x4_1 < (a0.size : Int)
   ·rw [if_pos c2] at H; have c2b0 : decide (x4_1 < (a0.size : Int)) = true := decide_eq_true c2; clear c2
    by_cases c3 : 0 ≤ x4_1
    ·rw [if_pos c3] at H; have c3b0 : decide (0 ≤ x4_1) = true := decide_eq_true c3; clear c3
     by_cases c5 : (bt a0 x4_1) < 48
     ·rw [if_pos c5] at H; have c5b0 : decide ((bt a0 x4_1) < 48) = true := decide_eq_true c5; clear c5
      obtain rfl := Option.some.inj H
      have p4 : 0 ≤ (x4_1 : Int) := of_decide_eq_true as_; have q4 : x4_1 < (a0.size : Int) := of_decide_eq_true as_; have hx4 := bt_at a0 x4_1; replace p4 := eq_true p4; replace q4 := eq_true q4
      go_wp2
      go_ret
      exact ed_
     ·rw [if_neg c5] at H; have c5b0 : decide ((bt a0 x4_1) < 48) = false := decide_eq_false c5; clear c5
      by_cases c7 : (bt a0 x4_1) > 57
      ·rw [if_pos c7] at H; have c7b0 : decide (57 < (bt a0 x4_1)) = true := decide_eq_true c7; clear c7
       obtain rfl := Option.some.inj H
       have p4 : 0 ≤ (x4_1 : Int) := of_decide_eq_true as_; have q4 : x4_1 < (a0.size : Int) := of_decide_eq_true as_; have hx4 := bt_at a0 x4_1; replace p4 := eq_true p4; replace q4 := eq_true q4; have p6 : 0 ≤ (x4_1 : Int) := of_decide_eq_true as_; have q6 : x4_1 < (a0.size : Int) := of_decide_eq_true as_; have hx6 := bt_at a0 x4_1; replace p6 := eq_true p6; replace q6 := eq_true q6
       go_wp2
       go_ret
       exact ed_
      ·rw [if_neg c7] at H; have c7b0 : decide (57 < (bt a0 x4_1)) = false := decide_eq_false c7; clear c7
       by_cases c8 : x3_1 > 100000000
       ·rw [if_pos c8] at H; have c8b0 : decide (100000000 < x3_1) = true := decide_eq_true c8; clear c8
        obtain rfl := Option.some.inj H
        have p4 : 0 ≤ (x4_1 : Int) := of_decide_eq_true as_; have q4 : x4_1 < (a0.size : Int) := of_decide_eq_true as_; have hx4 := bt_at a0 x4_1; replace p4 := eq_true p4; replace q4 := eq_true q4; have p6 : 0 ≤ (x4_1 : Int) := of_decide_eq_true as_; have q6 : x4_1 < (a0.size : Int) := of_decide_eq_true as_; have hx6 := bt_at a0 x4_1; replace p6 := eq_true p6; replace q6 := eq_true q6
        go_wp2
        go_ret
        exact ed_
       ·rw [if_neg c8] at H; have c8b0 : decide (100000000 < x3_1) = false := decide_eq_false c8; clear c8; have H' := Aside0.mk H; clear H; have p4 : 0 ≤ (x4_1 : Int) := of_decide_eq_true as_; have q4 : x4_1 < (a0.size : Int) := of_decide_eq_true as_; have hx4 := bt_at a0 x4_1; replace p4 := eq_true p4; replace q4 := eq_true q4; have p6 : 0 ≤ (x4_1 : Int) := of_decide_eq_true as_; have q6 : x4_1 < (a0.size : Int) := of_decide_eq_true as_; have hx6 := bt_at a0 x4_1; replace p6 := eq_true p6; replace q6 := eq_true q6; have p9 : 0 ≤ (x4_1 : Int) := of_decide_eq_true as_; have q9 : x4_1 < (a0.size : Int) := of_decide_eq_true as_; have hx9 := bt_at a0 x4_1; replace p9 := eq_true p9; replace q9 := eq_true q9
        go_wp2
        go_roundg k1
        case measure => have := HK1.out; omega
        case rel => exact ⟨(wrap64 ((wrap64 (10 * x3_1)) + (((bt a0 x4_1) - 48) % 256))), (wrap64 (x4_1 + 1)), rs_, rs_, H', ⟨by have := HK1.out; omega⟩, by repeat (first | exact Drawn0.refl _ | apply Drawn0.step)⟩
    ·rw [if_neg c3] at H; exact absurd H (by simp)
   ·rw [if_neg c2] at H; have c2b0 : decide (x4_1 < (a0.size : Int)) = false := decide_eq_false c2; clear c2
    obtain rfl := Option.some.inj H
    go_wp2
    go_ret
    exact ed_
end Go.Proofs.YtfjifhkgifefeaaGreatDoor.PA
end

