/- DaytimeSeconds: the seconds of a day, walked and proved; by an AI agent -/
import Derived.Test.YtfjifhkgifefeaaGreatDoorZDs1
import Derived.Shelf.Strings.BuilderK
import Derived.Shelf.Utf8.RuneCount
import Derived.Shelf.Strconv.ParseUintEmpty
import Derived.Shelf.Strconv.ParseUint10b64
import Derived.Shelf.Strconv.ParseUint10b32
import Derived.Shelf.Strconv.ParseUint10b16
import Derived.Shelf.Strconv.ParseUint10b8
import Derived.Shelf.Strconv.ParseUint10At
import Derived.Shelf.Strconv.ParseInt10At64
import Derived.Shelf.Strconv.ParseInt10At32
import Derived.Shelf.Strconv.ParseInt10At16
import Derived.Shelf.Strconv.ParseInt10At8
import Derived.Shelf.Strconv.ParseInt10All
import Derived.Shelf.Strconv.ParseIntPublic10
import Derived.Shelf.Strconv.ErrVarParseInt
import Derived.Shelf.GgClosure.StringsIndexFunc
import Derived.Ground.GgwProg
import Derived.Shelf.GgClosure.StringsIndexFuncTop
import Derived.Shelf.Strings.RuneCount
import Derived.Shelf.Strings.Explode
import Derived.Shelf.Unicode.DecodeAny
import Derived.Shelf.Unicode.DecodeLast
import Derived.Shelf.Strings.FieldsFuncAny
import Derived.Lib.ParseIntBTie
set_option linter.unusedVariables false
set_option linter.unusedSimpArgs false
section
/- What the printed functions of civil days and of the document's civil days answer, in plain words: Month, Check, Days, Of, Weekday. -/
namespace Go.Proofs.YtfjifhkgifefeaaGreatDoor.CivP
open Go.RowKit Go.Proofs.YtfjifhkgifefeaaGreatDoor.PA Go.Proofs.YtfjifhkgifefeaaGreatDoor.CivM Go.Proofs.YtfjifhkgifefeaaGreatDoorW.PrintWords

theorem wid {x : Int} (h0 : -9223372036854775808 ≤ x) (h1 : x ≤ 9223372036854775807) : wrap64 x = x := by unfold wrap64; omega
theorem tdv {a b : Int} (h : 0 ≤ a) : Int.tdiv a b = a / b := Int.tdiv_eq_ediv_of_nonneg h
theorem tmd {a b : Int} (h : 0 ≤ a) : Int.tmod a b = a % b := Int.tmod_eq_emod_of_nonneg h
theorem tm0 (a b : Int) : (Int.tmod a b = 0) = (a % b = 0) := by
  rw [eq_iff_iff, ← Int.dvd_iff_tmod_eq_zero, Int.dvd_iff_emod_eq_zero]

theorem leap (y : Int) : civil_Leap.f y = some (decide (lpI y = 1)) := by
  unfold civil_Leap.f lpI
  simp only [tm0]
  have e : (Int.tmod y 400 == 0) = decide (y % 400 = 0) := by
    rw [Bool.eq_iff_iff]; simp only [beq_iff_eq, decide_eq_true_eq, tm0]
  rw [e]
  by_cases a : y % 4 = 0
  · by_cases b : y % 100 = 0
    · by_cases c : y % 400 = 0 <;> simp [a, b, c]
    · simp [a, b]
  · simp [a]
theorem rleap (y : Int) : fuseeref07_Leap.f y = some (decide (lpI y = 1)) := by
  unfold fuseeref07_Leap.f lpI
  simp only [tm0]
  have e : (Int.tmod y 100 != 0) = decide (y % 100 ≠ 0) := by
    rw [Bool.eq_iff_iff]; simp only [bne_iff_ne, decide_eq_true_eq, ne_eq, tm0]
  rw [e]
  by_cases c : y % 400 = 0
  · have : y % 4 = 0 := by omega
    simp [c, this]
  · by_cases a : y % 4 = 0
    · by_cases b : y % 100 = 0 <;> simp [a, b, c]
    · simp [a, c]

theorem month (k : Nat) (y m : Int) (hk : 2 ≤ k) : civil_Month.f k y m = some (dim y m) := by
  obtain ⟨k, rfl⟩ : ∃ j, k = j + 2 := ⟨k - 2, by omega⟩
  unfold civil_Month.f dim
  by_cases h2 : m = 2
  · subst h2
    have := lpI_01 y
    simp [civil_Month.j0, civil_Month.j1, leap]
    by_cases e : lpI y = 1
    · simp [e]
    · simp [e]; omega
  rw [if_neg h2]
  by_cases h4 : m = 4 ∨ m = 6 ∨ m = 9 ∨ m = 11
  · rw [if_pos h4]
    rcases h4 with rfl | rfl | rfl | rfl <;> simp [civil_Month.j0, civil_Month.j1]
  rw [if_neg h4]
  by_cases hr : 1 ≤ m ∧ m ≤ 12
  · rw [if_pos hr]
    have : m = 1 ∨ m = 3 ∨ m = 5 ∨ m = 7 ∨ m = 8 ∨ m = 10 ∨ m = 12 := by omega
    rcases this with rfl | rfl | rfl | rfl | rfl | rfl | rfl <;> simp [civil_Month.j0]
  · rw [if_neg hr, if_neg (by omega), if_neg (by omega), if_neg (by omega), if_neg (by omega), if_neg (by omega), if_neg (by omega)]
    have b : (m == 12) = false := by simp; omega
    rw [b]
    simp only [civil_Month.j0, Bool.false_eq_true, if_false]
    rw [if_neg (by omega), if_neg (by omega), if_neg (by omega)]
    have b : (m == 11) = false := by simp; omega
    rw [b]
    simp only [civil_Month.j1, Bool.false_eq_true, if_false]
    rw [if_neg h2]
theorem rmonth (k : Nat) (y m : Int) (hk : 1 ≤ k) : fuseeref07_Month.f k y m = some (dim y m) := by
  obtain ⟨k, rfl⟩ : ∃ j, k = j + 1 := ⟨k - 1, by omega⟩
  unfold fuseeref07_Month.f
  by_cases hr : 1 ≤ m ∧ m ≤ 12
  · rw [if_neg (by omega)]
    have b : decide (m > 12) = false := by simp; omega
    rw [b]
    have := lpI_01 y
    have hm : m = 1 ∨ m = 2 ∨ m = 3 ∨ m = 4 ∨ m = 5 ∨ m = 6 ∨ m = 7 ∨ m = 8 ∨ m = 9 ∨ m = 10 ∨ m = 11 ∨ m = 12 := by omega
    rcases hm with rfl | rfl | rfl | rfl | rfl | rfl | rfl | rfl | rfl | rfl | rfl | rfl
    case inr.inl =>
      simp only [fuseeref07_Month.j0, Bool.false_eq_true, if_false, if_true, rleap, Option.bind_some, decide_eq_true_eq, dim]
      by_cases e : lpI y = 1
      · simp [e]
      · have : lpI y = 0 := by omega
        simp [this, wrap64, rd]
    all_goals simp [fuseeref07_Month.j0, dim, wrap64, rd]
  · rw [dim_out y m (by omega)]
    by_cases h1 : m < 1
    · rw [if_pos h1]; rfl
    · rw [if_neg h1]
      have b : decide (m > 12) = true := by simp; omega
      rw [b]; rfl

theorem check (k : Nat) (y m d : Int) (hk : 2 ≤ k) : civil_Check.f k y m d = some (if vld y m d then none else some 1) := by
  have hd := dim_bd y m
  have ho := dim_out y m
  unfold civil_Check.f
  rw [month k y m hk]
  simp only [Option.bind_some]
  by_cases v : vld y m d
  · rw [if_pos v]
    unfold vld at v
    rw [if_neg (by omega), if_neg (by omega), if_neg (by omega), if_neg (by omega)]
  · rw [if_neg v]
    unfold vld at v
    by_cases a : y < 1
    · rw [if_pos a]
    by_cases b : y > 9999
    · rw [if_neg a, if_pos b]
    by_cases c : d < 1
    · rw [if_neg a, if_neg b, if_pos c]
    rw [if_neg a, if_neg b, if_neg c, if_pos]
    by_cases e : m < 1 ∨ 12 < m
    · rw [ho e]; omega
    · omega
theorem some_dec {P : Prop} [Decidable P] {b : Bool} (h : b = true ↔ P) : some b = some (decide P) := by
  congr 1; rw [Bool.eq_iff_iff, h]; simp
theorem div_pos {a b : Int} (ha : 0 ≤ a) (ha2 : a ≤ 9223372036854775807) (hb : 1 ≤ b) : num_Div.f a b = some (a / b, a % b, none) := by
  have h1 : 0 ≤ a / b := Int.ediv_nonneg ha (by omega)
  have h2 : a / b ≤ a := Int.ediv_le_self _ ha
  have h3 : 0 ≤ a % b := Int.emod_nonneg _ (by omega)
  unfold num_Div.f
  rw [if_neg (by omega), if_neg (by omega), tdv ha, tmd ha, if_neg (by omega), wid (by omega) (by omega)]
theorem div_any {a b : Int} (ha : -9223372036854775808 ≤ a) (ha2 : a ≤ 9223372036854775807) (hb : 1 < b) (hb2 : b ≤ 9223372036854775807) : num_Div.f a b = some (a / b, a % b, none) := by
  by_cases h : 0 ≤ a
  · exact div_pos h ha2 (by omega)
  obtain ⟨p, rfl⟩ : ∃ p, a = -p := ⟨-a, by omega⟩
  have hp : 0 ≤ p := by omega
  obtain ⟨q, hq⟩ : ∃ q, q = p / b := ⟨_, rfl⟩
  obtain ⟨r, hr⟩ : ∃ r, r = p % b := ⟨_, rfl⟩
  have e2 := Int.emod_add_mul_ediv p b
  rw [← hq, ← hr] at e2
  have r0 : 0 ≤ r := by rw [hr]; exact Int.emod_nonneg _ (by omega)
  have r1 : r < b := by rw [hr]; exact Int.emod_lt_of_pos _ (by omega)
  have q0 : 0 ≤ q := by rw [hq]; exact Int.ediv_nonneg hp (by omega)
  have q1 : q + q ≤ p := by
    have : q * 2 ≤ q * b := Int.mul_le_mul_of_nonneg_left (by omega) q0
    have c := Int.mul_comm b q
    omega
  unfold num_Div.f
  rw [if_neg (by omega), if_neg (by omega), Int.neg_tdiv, Int.neg_tmod, tdv hp, tmd hp, ← hq, ← hr]
  by_cases z : r = 0
  · have U := (Int.ediv_emod_unique (a := -p) (b := b) (r := 0) (q := -q) (by omega)).2 ⟨by rw [Int.mul_neg]; omega, by omega, by omega⟩
    rw [U.1, U.2, z, if_neg (by omega), wid (by omega) (by omega)]
    rfl
  · have U := (Int.ediv_emod_unique (a := -p) (b := b) (r := b - r) (q := -q - 1) (by omega)).2 ⟨by rw [Int.mul_sub, Int.mul_neg]; omega, by omega, by omega⟩
    rw [U.1, U.2, if_pos (by omega), wid (x := -q) (by omega) (by omega), wid (by omega) (by omega), wid (by omega) (by omega)]
    congr 3; omega

theorem days (k : Nat) (y m d : Int) (hk : 2 ≤ k) : civil_Days.f k y m d = some (if vld y m d then (num y m d, none) else (0, some 1)) := by
  unfold civil_Days.f
  rw [check k y m d hk]
  simp only [Option.bind_some]
  by_cases v : vld y m d
  · rw [if_pos v, if_pos v]
    simp only [Option.isNone_none, if_true]
    obtain ⟨h1, h2, h3, h4, h5, h6⟩ := v
    have hd := dim_bd y m
    rw [wid (x := m - 3) (by omega) (by omega)]
    have L := lpI_01 y
    have E := dby_succ y
    have E' := dby_succ (y - 1)
    rw [show y - 1 + 1 = y by omega] at E'
    by_cases hm : m - 3 < 0
    · rw [if_pos hm, wid (x := y - 1) (by omega) (by omega), div_pos (by omega) (by omega) (by omega)]
      simp only [Option.bind_some, Option.isNone_none, if_true]
      have q1 : 0 ≤ (y - 1) / 400 ∧ (y - 1) / 400 ≤ 24 := by omega
      have q2 : 0 ≤ (y - 1) % 400 ∧ (y - 1) % 400 ≤ 399 := by omega
      simp (disch := omega) only [wid, tdv]
      congr 2
      have : m = 1 ∨ m = 2 := by omega
      unfold num dby
      rcases this with rfl | rfl <;> simp [cum] <;> omega
    · rw [if_neg hm, div_pos (by omega) (by omega) (by omega)]
      simp only [Option.bind_some, Option.isNone_none, if_true]
      have q1 : 0 ≤ y / 400 ∧ y / 400 ≤ 25 := by omega
      have q2 : 0 ≤ y % 400 ∧ y % 400 ≤ 399 := by omega
      simp (disch := omega) only [wid, tdv]
      congr 2
      have D : dby (y + 1) = 365 * y + y / 4 - y / 100 + y / 400 := by unfold dby; rw [show y + 1 - 1 = y by omega]
      have D2 : y / 400 * 146097 + y % 400 * 365 + y % 400 / 4 - y % 400 / 100 = dby (y + 1) := by rw [D]; omega
      rw [show y / 400 * 146097 + y % 400 * 365 + y % 400 / 4 - y % 400 / 100 = dby (y + 1) from D2]
      have : m = 3 ∨ m = 4 ∨ m = 5 ∨ m = 6 ∨ m = 7 ∨ m = 8 ∨ m = 9 ∨ m = 10 ∨ m = 11 ∨ m = 12 := by omega
      unfold num
      rcases this with rfl | rfl | rfl | rfl | rfl | rfl | rfl | rfl | rfl | rfl <;> simp [cum] <;> omega
  · rw [if_neg v, if_neg v]
    simp

theorem add_ok {a b : Int} (ha : -9223372036854775808 ≤ a) (ha2 : a ≤ 9223372036854775807) (hb : 0 ≤ b) (hb2 : b ≤ 9223372036854775807) :
    num_Add.f a b = some (if a + b ≤ 9223372036854775807 then (a + b, none) else (0, some 2)) := by
  unfold num_Add.f
  have b0 : decide (b < 0) = false := by simp; omega
  rw [b0]
  by_cases h : a + b ≤ 9223372036854775807
  · rw [if_pos h, wid (by omega) h]
    have : decide (a + b < a) = false := by simp; omega
    rw [this]; rfl
  · rw [if_neg h]
    have e : wrap64 (a + b) = a + b - 18446744073709551616 := by unfold wrap64; omega
    have : decide (wrap64 (a + b) < a) = true := by simp; omega
    rw [this]; rfl

/-- Of: the one date of a day, or the error. -/
theorem of_ok (k : Nat) (n : Int) (hk : 3 ≤ k) (h0 : -719162 ≤ n) (h1 : n ≤ 2932896) : ∃ y m d, vld y m d ∧ num y m d = n ∧ civil_Of.f k n = some (y, m, d, none) := by
  obtain ⟨k, rfl⟩ : ∃ j, k = j + 1 := ⟨k - 1, by omega⟩
  obtain ⟨era, hera⟩ : ∃ era, era = (n + 719468) / 146097 := ⟨_, rfl⟩
  obtain ⟨day, hday⟩ : ∃ day, day = (n + 719468) % 146097 := ⟨_, rfl⟩
  have he : 0 ≤ era ∧ era ≤ 24 := by omega
  have hd0 : 0 ≤ day ∧ day < 146097 := by omega
  obtain ⟨c, q, s, t, hd, hc, hc3, hq, hq1, hs, hs3, ht, hx⟩ := dec day hd0.1 hd0.2
  have hy := yoe_eq c q s t hc hc3 hq hq1 hs hs3 ht hx
  rw [← hd] at hy
  unfold yoe at hy
  have P := of_parts era c q s t ((5 * t + 2) / 153) hc hc3 hq hq1 hs hs3 ht hx rfl
  simp only at P
  obtain ⟨m, hm⟩ : ∃ m, m = (5 * t + 2) / 153 := ⟨_, rfl⟩
  rw [← hm] at P
  obtain ⟨p1, p2, p3, p4, p5⟩ := P
  have hn : num (400 * era + (100 * c + 4 * q + s) + m / 10) ((m + 2) % 12 + 1) (t - (153 * m + 2) / 5 + 1) = n := by rw [p5, ← hd]; omega
  have hD := dim_bd (400 * era + (100 * c + 4 * q + s) + m / 10) ((m + 2) % 12 + 1)
  have hv : vld (400 * era + (100 * c + 4 * q + s) + m / 10) ((m + 2) % 12 + 1) (t - (153 * m + 2) / 5 + 1) := by
    refine ⟨?_, ?_, p1, p2, p3, p4⟩
    · rcases Int.lt_or_le (400 * era + (100 * c + 4 * q + s) + m / 10) 1 with c1 | c1
      · exfalso
        have a := cum_le _ _ _ p1 p2 p3 p4
        have b := dby_succ (400 * era + (100 * c + 4 * q + s) + m / 10)
        have e := dby_mono (400 * era + (100 * c + 4 * q + s) + m / 10 + 1) 1 (by omega)
        have e4 : dby 1 = 0 := by decide
        unfold num at hn; omega
      · exact c1
    · rcases Int.lt_or_le 9999 (400 * era + (100 * c + 4 * q + s) + m / 10) with c1 | c1
      · exfalso
        have a := cum_le _ _ _ p1 p2 p3 p4
        have e := dby_mono 10000 (400 * era + (100 * c + 4 * q + s) + m / 10) (by omega)
        have e3 : dby 10000 = 3652059 := by decide
        unfold num at hn; omega
      · exact c1
  refine ⟨_, _, _, hv, hn, ?_⟩
  unfold civil_Of.f
  rw [add_ok (by omega) (by omega) (by omega) (by omega), if_pos (by omega)]
  simp only [Option.bind_some, Option.isNone_none, if_true]
  rw [div_pos (by omega) (by omega) (by omega)]
  simp only [Option.bind_some, Option.isNone_none, if_true]
  rw [← hera, ← hday]
  have b : decide (era > 9999) = false := by simp; omega
  rw [b]
  simp only [civil_Of.j0, Bool.false_eq_true, if_false]
  have w0 : wrap64 ((wrap64 ((wrap64 (day - (wrap64 (Int.tdiv day 1460)))) + (wrap64 (Int.tdiv day 36524)))) - (wrap64 (Int.tdiv day 146096))) = day - day / 1460 + day / 36524 - day / 146096 := by
    simp (disch := omega) only [wid, tdv]
  have nn : 0 ≤ day - day / 1460 + day / 36524 - day / 146096 := by omega
  have w1 : wrap64 (Int.tdiv (day - day / 1460 + day / 36524 - day / 146096) 365) = 100 * c + 4 * q + s := by
    rw [tdv nn, hy, wid (by omega) (by omega)]
  have w2 : wrap64 (day - (wrap64 ((wrap64 ((wrap64 (365 * (100 * c + 4 * q + s))) + (wrap64 (Int.tdiv (100 * c + 4 * q + s) 4)))) - (wrap64 (Int.tdiv (100 * c + 4 * q + s) 100))))) = t := by
    have v4 : (100 * c + 4 * q + s) / 4 = 25 * c + q := by omega
    have v1 : (100 * c + 4 * q + s) / 100 = c := by omega
    simp (disch := omega) only [wid, tdv]
    rw [v4, v1]; omega
  have w3 : wrap64 (Int.tdiv (wrap64 ((wrap64 (5 * t)) + 2)) 153) = m := by
    simp (disch := omega) only [wid, tdv]
    omega
  simp only [w0, w1, w2, w3]
  have hm2 : 0 ≤ m ∧ m ≤ 11 := by omega
  have w4 : wrap64 ((wrap64 ((wrap64 (400 * era)) + (100 * c + 4 * q + s))) + (wrap64 (Int.tdiv m 10))) = 400 * era + (100 * c + 4 * q + s) + m / 10 := by
    simp (disch := omega) only [wid, tdv]
  have w5 : wrap64 ((Int.tmod (wrap64 (m + 2)) 12) + 1) = (m + 2) % 12 + 1 := by
    simp (disch := omega) only [wid, tmd]
  have w6 : wrap64 ((wrap64 (t - (wrap64 (Int.tdiv (wrap64 ((wrap64 (153 * m)) + 2)) 5)))) + 1) = t - (153 * m + 2) / 5 + 1 := by
    simp (disch := omega) only [wid, tdv]
  simp only [w4, w5, w6]
  rw [check k _ _ _ (by omega), if_pos hv]
  rfl

end Go.Proofs.YtfjifhkgifefeaaGreatDoor.CivP
end

section
namespace Go.Proofs.YtfjifhkgifefeaaGreatDoor.PA
open Go.Proofs.YtfjifhkgifefeaaGreatDoor.Giv Go.RowKit Go.Proofs.YtfjifhkgifefeaaGreatDoorW.PrintWords Go.Proofs.YtfjifhkgifefeaaGreatDoorW.PrintLast Go.Proofs.YtfjifhkgifefeaaGreatDoorW.PrintMore
attribute [local go_sem] max2_int min2_int max_two min_two max_three min_three max_four min_four   -- for this text's walks alone
set_option linter.unusedVariables false
set_option linter.unusedSimpArgs false

/-! ### civil_digits: function 95 -/
def civil_digits.f (a0 : Int) (a1 : Int) : Option (ByteArray) := (strconv_Itoa.f a0).bind fun t137 => ((strings_Repeat.f (⟨#[48]⟩ : ByteArray) (wrap64 (a1 - (t137.size : Int)))).bind fun t138 => (if t138.size + t137.size ≤ 9223372036854775807 then (some (t138 ++ t137)) else (none)))
set_option maxHeartbeats 8000000 in
set_option maxRecDepth 100000 in
theorem civil_digits.calls (a0 : Int) (a1 : Int) (r : ByteArray) (w : World) (hl_ : Laid w) (h : civil_digits.f a0 a1 = some r) :
    Calls Tryz.prog 95 #[.int .i64 a0, .int .i64 a1] w fun e w' => e = .returned (.string r) ∧ Below w.heap.size w w' := by
  have HL := Aside0.mk hl_
  clear hl_
  have HB := Aside0.mk (Below.refl w.heap.size w)
  have H : ((strconv_Itoa.f a0).bind fun t137 => ((strings_Repeat.f (⟨#[48]⟩ : ByteArray) (wrap64 (a1 - (t137.size : Int)))).bind fun t138 => (if t138.size + t137.size ≤ 9223372036854775807 then (some (t138 ++ t137)) else (none)))) = some r := h
  clear h
  replace H := Option.bind_eq_some_iff.mp H
  obtain ⟨t137, A30, H⟩ := H
  replace H : ((strings_Repeat.f (⟨#[48]⟩ : ByteArray) (wrap64 (a1 - (t137.size : Int)))).bind fun t138 => (if t138.size + t137.size ≤ 9223372036854775807 then (some (t138 ++ t137)) else (none))) = some r := H
  have A3 := Aside0.mk A30
  clear A30
  replace H := Option.bind_eq_some_iff.mp H
  obtain ⟨t138, A40, H⟩ := H
  replace H : (if t138.size + t137.size ≤ 9223372036854775807 then (some (t138 ++ t137)) else (none)) = some r := H
  have A4 := Aside0.mk A40
  clear A40
  by_cases c5 : t138.size + t137.size ≤ 9223372036854775807
  · rw [if_pos c5] at H
    have c5b0 := eq_true c5
    have c5b1 : decide (t138.size + t137.size ≤ 9223372036854775807) = true := decide_eq_true c5
    try have c5b2 : (9223372036854775807 < t138.size + t137.size) = False := eq_false (Nat.not_lt.2 c5)
    obtain rfl := Option.some.inj H
    go_enter Tryz.func95, Tryz.ntmps95
    go_wp2_with (first | ((with_reducible refine gate_callee (f := 161) rfl ?_); refine goesL_ (some 7) rfl rfl Tryz.func161 (by kernel_rfl) rfl #[.int .i64 a0] rfl (by (try simp only [List.map_toArray, List.map_cons, List.map_nil]); first | done | rfl | (simp only [List.length_drop, List.length_take]; rfl)) ?_; (with_reducible refine (strconv_Itoa.calls a0 t137 _ (by first | exact Laid.below HL.out (by repeat (first | (with_reducible first | exact HB.out | apply below_alloc | apply pw_below_drewN | apply below_drew1 | refine below_set ?_ (Aside0.out (by assumption))) | exact HB.out))) A3.out).mono ?_); rintro e w6 ⟨rfl, hb⟩; refine ⟨_, rfl, ?_⟩; have n0_ := Aside0.mk (below_step (by repeat (first | (with_reducible first | exact HB.out | apply below_alloc | apply pw_below_drewN | apply below_drew1) | exact HB.out)) hb); clear HB; have HB := n0_; clear n0_; (try clear hb); (try clear hb2); (try clear hk); (try clear hi)) | ((with_reducible refine gate_callee (f := 155) rfl ?_); refine goesL_ (some 12) rfl rfl Tryz.func155 (by kernel_rfl) rfl #[.string (⟨#[48]⟩ : ByteArray), .int .i64 (wrap64 (a1 - (t137.size : Int)))] rfl (by (try simp only [List.map_toArray, List.map_cons, List.map_nil]); first | done | rfl | (simp only [List.length_drop, List.length_take]; rfl)) ?_; (with_reducible refine (strings_Repeat.calls (⟨#[48]⟩ : ByteArray) (wrap64 (a1 - (t137.size : Int))) t138 _ A4.out).mono ?_); rintro e w7 ⟨rfl, hb⟩; refine ⟨_, rfl, ?_⟩; have n0_ := Aside0.mk (below_step (by repeat (first | (with_reducible first | exact HB.out | apply below_alloc | apply pw_below_drewN | apply below_drew1) | exact HB.out)) hb); clear HB; have HB := n0_; clear n0_; (try clear hb); (try clear hb2); (try clear hk); (try clear hi)))
    go_ret
    exact ⟨by first | rfl | (simp [errW_none, errW_some] <;> rfl) | (simp [*, errW_none, errW_some] <;> rfl), by repeat (first | (with_reducible first | exact HB.out | apply below_alloc | apply pw_below_drewN | apply below_drew1) | exact HB.out)⟩
  · rw [if_neg c5] at H
    exact absurd H (by simp)

end Go.Proofs.YtfjifhkgifefeaaGreatDoor.PA
end

section
namespace Go.Proofs.YtfjifhkgifefeaaGreatDoor.PA
open Go.Proofs.YtfjifhkgifefeaaGreatDoor.Giv Go.RowKit Go.Proofs.YtfjifhkgifefeaaGreatDoorW.PrintWords Go.Proofs.YtfjifhkgifefeaaGreatDoorW.PrintLast Go.Proofs.YtfjifhkgifefeaaGreatDoorW.PrintMore
attribute [local go_sem] max2_int min2_int max_two min_two max_three min_three max_four min_four   -- for this text's walks alone
set_option linter.unusedVariables false
set_option linter.unusedSimpArgs false

/-! ### civil_Text: function 26 -/
def civil_Text.f (k : Nat) (a0_0 : Int) (a0_1 : Int) (a0_2 : Int) : Option (ByteArray × Option Int) := (civil_Check.f k a0_0 a0_1 a0_2).bind fun t140 => (if t140.isNone = true then ((civil_digits.f a0_0 4).bind fun t142 => (if t142.size + 1 ≤ 9223372036854775807 then ((civil_digits.f a0_1 2).bind fun t143 => (if (t142 ++ (⟨#[45]⟩ : ByteArray)).size + t143.size ≤ 9223372036854775807 then (if ((t142 ++ (⟨#[45]⟩ : ByteArray)) ++ t143).size + 1 ≤ 9223372036854775807 then ((civil_digits.f a0_2 2).bind fun t144 => (if (((t142 ++ (⟨#[45]⟩ : ByteArray)) ++ t143) ++ (⟨#[45]⟩ : ByteArray)).size + t144.size ≤ 9223372036854775807 then (some ((((t142 ++ (⟨#[45]⟩ : ByteArray)) ++ t143) ++ (⟨#[45]⟩ : ByteArray)) ++ t144, none)) else (none))) else (none)) else (none))) else (none))) else (some ((⟨#[]⟩ : ByteArray), some (t140.getD 0))))
def civil_Text.T4 : Bool × List (List Nat × List Nat) := (true, [([], []), ([0], [0]), ([1], [1]), ([2], [2]), ([], []), ([4], [4]), ([5, 2], [5]), ([3, 6], [3, 6]), ([7], [7]), ([], []), ([9], [9]), ([10, 6], [10]), ([8, 11], [8, 11]), ([12, 11, 0, 1, 2, 3, 4, 5, 6, 7, 8, 9, 10, 11, 12], [12]), ([13, 0, 1, 2, 3, 4, 5, 6, 7, 8, 9, 10, 11, 12, 13], [])])
def civil_Text.B4 : List Nat := [0, 1, 3, 7, 0, 16, 55, 127, 255, 0, 512, 1655, 4095, 8191, 16383]
theorem civil_Text.tab4 : rtab .any (opsOf Tryz.f26 4) = civil_Text.T4 := by kernel_rfl
theorem civil_Text.bits4 : waitsOk civil_Text.T4.2 civil_Text.B4 = true := by kernel_rfl
set_option maxHeartbeats 8000000 in
set_option maxRecDepth 100000 in
theorem civil_Text.calls (k : Nat) (a0_0 : Int) (a0_1 : Int) (a0_2 : Int) (r1 : ByteArray) (r2 : Option Int) (w : World) (hl_ : Laid w) (h : civil_Text.f k a0_0 a0_1 a0_2 = some (r1, r2)) :
    Calls Tryz.prog 26 #[.agg #[.int .i64 a0_0, .int .i64 a0_1, .int .i64 a0_2]] w fun e w' => e = .returned (.tuple #[.string r1, errW r2]) ∧ Below w.heap.size w w' := by
  have hu26 := Tryz.underlying26
  have hu28 := Tryz.underlying28
  have hu157 := Tryz.underlying157
  have HL := Aside0.mk hl_
  clear hl_
  have HB := Aside0.mk (Below.refl w.heap.size w)
  have H : ((civil_Check.f k a0_0 a0_1 a0_2).bind fun t140 => (if t140.isNone = true then ((civil_digits.f a0_0 4).bind fun t142 => (if t142.size + 1 ≤ 9223372036854775807 then ((civil_digits.f a0_1 2).bind fun t143 => (if (t142 ++ (⟨#[45]⟩ : ByteArray)).size + t143.size ≤ 9223372036854775807 then (if ((t142 ++ (⟨#[45]⟩ : ByteArray)) ++ t143).size + 1 ≤ 9223372036854775807 then ((civil_digits.f a0_2 2).bind fun t144 => (if (((t142 ++ (⟨#[45]⟩ : ByteArray)) ++ t143) ++ (⟨#[45]⟩ : ByteArray)).size + t144.size ≤ 9223372036854775807 then (some ((((t142 ++ (⟨#[45]⟩ : ByteArray)) ++ t143) ++ (⟨#[45]⟩ : ByteArray)) ++ t144, none)) else (none))) else (none)) else (none))) else (none))) else (some ((⟨#[]⟩ : ByteArray), some (t140.getD 0))))) = some (r1, r2) := h
  clear h
  replace H := Option.bind_eq_some_iff.mp H
  obtain ⟨t140, A20, H⟩ := H
  replace H : (if t140.isNone = true then ((civil_digits.f a0_0 4).bind fun t142 => (if t142.size + 1 ≤ 9223372036854775807 then ((civil_digits.f a0_1 2).bind fun t143 => (if (t142 ++ (⟨#[45]⟩ : ByteArray)).size + t143.size ≤ 9223372036854775807 then (if ((t142 ++ (⟨#[45]⟩ : ByteArray)) ++ t143).size + 1 ≤ 9223372036854775807 then ((civil_digits.f a0_2 2).bind fun t144 => (if (((t142 ++ (⟨#[45]⟩ : ByteArray)) ++ t143) ++ (⟨#[45]⟩ : ByteArray)).size + t144.size ≤ 9223372036854775807 then (some ((((t142 ++ (⟨#[45]⟩ : ByteArray)) ++ t143) ++ (⟨#[45]⟩ : ByteArray)) ++ t144, none)) else (none))) else (none)) else (none))) else (none))) else (some ((⟨#[]⟩ : ByteArray), some (t140.getD 0)))) = some (r1, r2) := H
  have A2 := Aside0.mk A20
  clear A20
  rcases t140 with _ | q141
  · have H1 : ((civil_digits.f a0_0 4).bind fun t142 => (if t142.size + 1 ≤ 9223372036854775807 then ((civil_digits.f a0_1 2).bind fun t143 => (if (t142 ++ (⟨#[45]⟩ : ByteArray)).size + t143.size ≤ 9223372036854775807 then (if ((t142 ++ (⟨#[45]⟩ : ByteArray)) ++ t143).size + 1 ≤ 9223372036854775807 then ((civil_digits.f a0_2 2).bind fun t144 => (if (((t142 ++ (⟨#[45]⟩ : ByteArray)) ++ t143) ++ (⟨#[45]⟩ : ByteArray)).size + t144.size ≤ 9223372036854775807 then (some ((((t142 ++ (⟨#[45]⟩ : ByteArray)) ++ t143) ++ (⟨#[45]⟩ : ByteArray)) ++ t144, none)) else (none))) else (none)) else (none))) else (none))) = some (r1, r2) := by rw [if_pos (show (none : Option Int).isNone = true by rfl)] at H; exact H
    clear H
    have H := H1
    clear H1
    try simp only [errW_none, errW_some]
    replace H := Option.bind_eq_some_iff.mp H
    obtain ⟨t142, A30, H⟩ := H
    replace H : (if t142.size + 1 ≤ 9223372036854775807 then ((civil_digits.f a0_1 2).bind fun t143 => (if (t142 ++ (⟨#[45]⟩ : ByteArray)).size + t143.size ≤ 9223372036854775807 then (if ((t142 ++ (⟨#[45]⟩ : ByteArray)) ++ t143).size + 1 ≤ 9223372036854775807 then ((civil_digits.f a0_2 2).bind fun t144 => (if (((t142 ++ (⟨#[45]⟩ : ByteArray)) ++ t143) ++ (⟨#[45]⟩ : ByteArray)).size + t144.size ≤ 9223372036854775807 then (some ((((t142 ++ (⟨#[45]⟩ : ByteArray)) ++ t143) ++ (⟨#[45]⟩ : ByteArray)) ++ t144, none)) else (none))) else (none)) else (none))) else (none)) = some (r1, r2) := H
    have A3 := Aside0.mk A30
    clear A30
    by_cases c4 : t142.size + 1 ≤ 9223372036854775807
    · rw [if_pos c4] at H
      have c4b0 := eq_true c4
      have c4b1 : decide (t142.size + 1 ≤ 9223372036854775807) = true := decide_eq_true c4
      try have c4b2 : (9223372036854775807 < t142.size + 1) = False := eq_false (Nat.not_lt.2 c4)
      replace H := Option.bind_eq_some_iff.mp H
      obtain ⟨t143, A50, H⟩ := H
      replace H : (if (t142 ++ (⟨#[45]⟩ : ByteArray)).size + t143.size ≤ 9223372036854775807 then (if ((t142 ++ (⟨#[45]⟩ : ByteArray)) ++ t143).size + 1 ≤ 9223372036854775807 then ((civil_digits.f a0_2 2).bind fun t144 => (if (((t142 ++ (⟨#[45]⟩ : ByteArray)) ++ t143) ++ (⟨#[45]⟩ : ByteArray)).size + t144.size ≤ 9223372036854775807 then (some ((((t142 ++ (⟨#[45]⟩ : ByteArray)) ++ t143) ++ (⟨#[45]⟩ : ByteArray)) ++ t144, none)) else (none))) else (none)) else (none)) = some (r1, r2) := H
      have A5 := Aside0.mk A50
      clear A50
      by_cases c6 : (t142 ++ (⟨#[45]⟩ : ByteArray)).size + t143.size ≤ 9223372036854775807
      · rw [if_pos c6] at H
        have c6b0 := eq_true c6
        have c6b1 : decide ((t142 ++ (⟨#[45]⟩ : ByteArray)).size + t143.size ≤ 9223372036854775807) = true := decide_eq_true c6
        try have c6b2 : (9223372036854775807 < (t142 ++ (⟨#[45]⟩ : ByteArray)).size + t143.size) = False := eq_false (Nat.not_lt.2 c6)
        try have c6b3 : (9223372036854775807 < t142.size + 1 + t143.size) = False := eq_false (by have q_ := c6; simp only [ByteArray.size_append] at q_; exact Nat.not_lt.2 q_)
        by_cases c7 : ((t142 ++ (⟨#[45]⟩ : ByteArray)) ++ t143).size + 1 ≤ 9223372036854775807
        · rw [if_pos c7] at H
          have c7b0 := eq_true c7
          have c7b1 : decide (((t142 ++ (⟨#[45]⟩ : ByteArray)) ++ t143).size + 1 ≤ 9223372036854775807) = true := decide_eq_true c7
          try have c7b2 : (9223372036854775807 < ((t142 ++ (⟨#[45]⟩ : ByteArray)) ++ t143).size + 1) = False := eq_false (Nat.not_lt.2 c7)
          try have c7b3 : (9223372036854775807 < t142.size + 1 + t143.size + 1) = False := eq_false (by have q_ := c7; simp only [ByteArray.size_append] at q_; exact Nat.not_lt.2 q_)
          replace H := Option.bind_eq_some_iff.mp H
          obtain ⟨t144, A80, H⟩ := H
          replace H : (if (((t142 ++ (⟨#[45]⟩ : ByteArray)) ++ t143) ++ (⟨#[45]⟩ : ByteArray)).size + t144.size ≤ 9223372036854775807 then (some ((((t142 ++ (⟨#[45]⟩ : ByteArray)) ++ t143) ++ (⟨#[45]⟩ : ByteArray)) ++ t144, none)) else (none)) = some (r1, r2) := H
          have A8 := Aside0.mk A80
          clear A80
          by_cases c9 : (((t142 ++ (⟨#[45]⟩ : ByteArray)) ++ t143) ++ (⟨#[45]⟩ : ByteArray)).size + t144.size ≤ 9223372036854775807
          · rw [if_pos c9] at H
            have c9b0 := eq_true c9
            have c9b1 : decide ((((t142 ++ (⟨#[45]⟩ : ByteArray)) ++ t143) ++ (⟨#[45]⟩ : ByteArray)).size + t144.size ≤ 9223372036854775807) = true := decide_eq_true c9
            try have c9b2 : (9223372036854775807 < (((t142 ++ (⟨#[45]⟩ : ByteArray)) ++ t143) ++ (⟨#[45]⟩ : ByteArray)).size + t144.size) = False := eq_false (Nat.not_lt.2 c9)
            try have c9b3 : (9223372036854775807 < t142.size + 1 + t143.size + 1 + t144.size) = False := eq_false (by have q_ := c9; simp only [ByteArray.size_append] at q_; exact Nat.not_lt.2 q_)
            simp only [Option.some.injEq, Prod.mk.injEq] at H
            obtain ⟨rfl, rfl⟩ := H
            go_enter Tryz.func26, Tryz.ntmps26
            try go_wp2_with (first | ((with_reducible refine gate_dst (N := 1) rfl ?_); refine box_event ?hg (N := 1) ?hd (cs := #[.int .i64 a0_0, .int .i64 a0_1, .int .i64 a0_2]) (t := 26) ?hr ?_; (case hd => rfl); (case hg => rfl); (case hr => first | (go_simp; done) | (go_simp; rfl)); intro gb139 hg w10 hbox hb; have n0_ := Aside0.mk (below_step (by repeat (first | (with_reducible first | exact HB.out | apply below_alloc | apply pw_below_drewN | apply below_drew1) | exact HB.out)) hb); have n1_ := Aside0.mk (hbox); have n2_ := Aside0.mk ((by rw [hg]; exact (below_size (by repeat (first | (with_reducible first | exact HB.out | apply below_alloc | apply pw_below_drewN | apply below_drew1) | exact HB.out))) : w.heap.size ≤ gb139)); have n3_ := Aside0.mk ((by rw [hg]; exact (below_size (by repeat (first | (with_reducible first | exact HB.out | apply below_alloc | apply pw_below_drewN | apply below_drew1) | exact HB.out))) : w.heap.size ≤ gb139)); clear HB; have HB := n0_; have BK139 := n1_; have GW139 := n2_; have GE139 := n3_; clear n0_ n1_ n2_ n3_; clear hb hbox hg; have hcz11_0 : w10.cell? ⟨gb139, 0, none⟩ = some (.int .i64 a0_0) := (blk_cell BK139.out 0).trans rfl; have hcz11_1 : w10.cell? ⟨gb139, 1, none⟩ = some (.int .i64 a0_1) := (blk_cell BK139.out 1).trans rfl; have hcz11_2 : w10.cell? ⟨gb139, 2, none⟩ = some (.int .i64 a0_2) := (blk_cell BK139.out 2).trans rfl; have hfz11_0 := blk_frozen BK139.out 0; have hfz11_1 := blk_frozen BK139.out 1; have hfz11_2 := blk_frozen BK139.out 2) | ((with_reducible refine gate_callee (f := 22) rfl ?_); refine goesL_ (some 6) rfl rfl Tryz.func22 (by kernel_rfl) rfl #[.agg #[.int .i64 a0_0, .int .i64 a0_1, .int .i64 a0_2]] rfl (by (try simp only [List.map_toArray, List.map_cons, List.map_nil]); first | done | rfl | (simp only [List.length_drop, List.length_take]; rfl)) ?_; (with_reducible refine (civil_Check.calls k a0_0 a0_1 a0_2 none _ A2.out).mono ?_); rintro e w12 ⟨rfl, hb⟩; refine ⟨_, rfl, ?_⟩; have n0_ := Aside0.mk (blk_below (g := gb139) (o := .cells #[.int .i64 a0_0, .int .i64 a0_1, .int .i64 a0_2] 26 (0, 0)) (by (with_reducible repeat (first | refine blk_drewN ?_ _ | refine blk_drew ?_ | refine blk_alloc ?_ _)); exact BK139.out) hb); have n1_ := Aside0.mk (below_step (by repeat (first | (with_reducible first | exact HB.out | apply below_alloc | apply pw_below_drewN | apply below_drew1 | refine below_set ?_ GE139.out) | exact HB.out)) hb); clear BK139; clear HB; have BK139 := n0_; have HB := n1_; clear n0_ n1_; (try clear hb); (try clear hb2); (try clear hk); (try clear hi); (try simp only [errW_none, errW_some])))
            have n0_ := Aside0.mk (blk_drew BK139.out)
            have n1_ := Aside0.mk (below_drew1 HB.out)
            clear BK139
            clear HB
            have BK139 := n0_
            have HB := n1_
            clear n0_ n1_
            refine start_ (n := 15) (S := fun w' => w'.cell? ⟨gb139, 0, none⟩ = some (.int .i64 a0_0) ∧ w'.cell? ⟨gb139, 1, none⟩ = some (.int .i64 a0_1) ∧ w'.cell? ⟨gb139, 2, none⟩ = some (.int .i64 a0_2)) (ds := []) #[false, false, false, false, false, false, false, false, false, false, false, false, false, false, false] (by kernel_rfl) rfl rfl ⟨(blk_cell BK139.out 0).trans rfl, (blk_cell BK139.out 1).trans rfl, (blk_cell BK139.out 2).trans rfl⟩ (fun hHeld => ?_); refine with_tabW civil_Text.tab4 civil_Text.bits4 (fun HT_ HW_ => ?_)
            generalize w12.drew = w13 at BK139 HB hHeld ⊢
            refine pure_ (i := 0) (N := some 10) (v := ?_) (a' := ?_) #[true, false, false, false, false, false, false, false, false, false, false, false, false, false, false] rfl rfl (any_of HT_.out (by kernel_rfl)) (fun _ _ _ h => h) (Or.inl ⟨by rfl, ?_⟩) ?_ ?_
            rotate_left
            · intro w'
              go_simp
              with_reducible rfl
            rotate_left
            · simp only [Act.put, List.setIfInBounds_toArray, List.set_cons_zero, List.set_cons_succ, i64_w, i32_w]
              rfl
            refine pure_ (i := 4) (N := some 14) (v := ?_) (a' := ?_) #[true, false, false, false, true, false, false, false, false, false, false, false, false, false, false] rfl rfl (any_of HT_.out (by kernel_rfl)) (fun _ _ _ h => h) (Or.inl ⟨by rfl, ?_⟩) ?_ ?_
            rotate_left
            · intro w'
              go_simp
              with_reducible rfl
            rotate_left
            · simp only [Act.put, List.setIfInBounds_toArray, List.set_cons_zero, List.set_cons_succ, i64_w, i32_w]
              rfl
            refine pure_ (i := 9) (N := some 19) (v := ?_) (a' := ?_) #[true, false, false, false, true, false, false, false, false, true, false, false, false, false, false] rfl rfl (any_of HT_.out (by kernel_rfl)) (fun _ _ _ h => h) (Or.inl ⟨by rfl, ?_⟩) ?_ ?_
            rotate_left
            · intro w'
              go_simp
              with_reducible rfl
            rotate_left
            · simp only [Act.put, List.setIfInBounds_toArray, List.set_cons_zero, List.set_cons_succ, i64_w, i32_w]
              rfl
            refine take_ (i := 1) (N := some 11) (v := ?_) (a' := ?_) #[true, true, false, false, true, false, false, false, false, true, false, false, false, false, false] rfl rfl (take_ofW HT_.out HW_.out (by kernel_rfl)) (fun _ _ _ h => h) (Or.inl ⟨by rfl, ?_⟩) hHeld ?_ ?_
            rotate_left
            · rintro w' ⟨s0, s1, s2⟩
              go_simp
              with_reducible rfl
            rotate_left
            · simp only [Act.put, List.setIfInBounds_toArray, List.set_cons_zero, List.set_cons_succ, i64_w, i32_w]
              rfl
            refine take_ (i := 5) (N := some 15) (v := ?_) (a' := ?_) #[true, true, false, false, true, true, false, false, false, true, false, false, false, false, false] rfl rfl (take_ofW HT_.out HW_.out (by kernel_rfl)) (fun _ _ _ h => h) (Or.inl ⟨by rfl, ?_⟩) hHeld ?_ ?_
            rotate_left
            · rintro w' ⟨s0, s1, s2⟩
              go_simp
              with_reducible rfl
            rotate_left
            · simp only [Act.put, List.setIfInBounds_toArray, List.set_cons_zero, List.set_cons_succ, i64_w, i32_w]
              rfl
            refine take_ (i := 10) (N := some 20) (v := ?_) (a' := ?_) #[true, true, false, false, true, true, false, false, false, true, true, false, false, false, false] rfl rfl (take_ofW HT_.out HW_.out (by kernel_rfl)) (fun _ _ _ h => h) (Or.inl ⟨by rfl, ?_⟩) hHeld ?_ ?_
            rotate_left
            · rintro w' ⟨s0, s1, s2⟩
              go_simp
              with_reducible rfl
            rotate_left
            · simp only [Act.put, List.setIfInBounds_toArray, List.set_cons_zero, List.set_cons_succ, i64_w, i32_w]
              rfl
            refine one_ (i := 2) (N := some 12) #[true, true, true, false, true, true, false, false, false, true, true, false, false, false, false] rfl rfl (one_of HT_.out (by kernel_rfl)) (by decide) (fun K hK => ?_)
            refine goes_ Tryz.func95 (by kernel_rfl) rfl #[.int .i64 a0_0, .int .i64 4] (by rfl) rfl rfl (by (try simp only [List.map_toArray, List.map_cons, List.map_nil]); first | done | rfl | (simp only [List.length_drop, List.length_take]; rfl)) ?_
            with_reducible refine (civil_digits.calls a0_0 4 t142 _ (by first | exact Laid.below HL.out (by repeat (first | (with_reducible first | exact HB.out | apply below_alloc | apply pw_below_drewN | apply below_drew1 | refine below_set ?_ (Aside0.out (by assumption))) | exact HB.out))) A3.out).mono ?_
            rintro e w14 ⟨rfl, hb⟩
            refine ⟨_, rfl, ?_⟩
            have n0_ := Aside0.mk (blk_below (g := gb139) (o := .cells #[.int .i64 a0_0, .int .i64 a0_1, .int .i64 a0_2] 26 (0, 0)) (by (with_reducible repeat (first | refine blk_drewN ?_ _ | refine blk_drew ?_ | refine blk_alloc ?_ _)); exact BK139.out) hb)
            have n1_ := Aside0.mk (below_step (by repeat (first | (with_reducible first | exact HB.out | apply below_alloc | apply pw_below_drewN | apply below_drew1 | refine below_set ?_ GE139.out) | exact HB.out)) hb)
            clear BK139
            clear HB
            have BK139 := n0_
            have HB := n1_
            clear n0_ n1_
            (try clear hb)
            (try clear hb2)
            (try clear hk)
            (try clear hi)
            refine hK.out _ _ ⟨(blk_cell BK139.out 0).trans rfl, (blk_cell BK139.out 1).trans rfl, (blk_cell BK139.out 2).trans rfl⟩ (fun hHeld => ?_)
            clear hK K
            refine norm_ (a' := ?_) ?_ ?_
            rotate_left
            · show Act.put _ (some 12) _ = _
              simp only [Act.put, List.setIfInBounds_toArray, List.set_cons_zero, List.set_cons_succ, i64_w, i32_w]
              rfl
            refine pure_ (i := 3) (N := some 13) (v := ?_) (a' := ?_) #[true, true, true, true, true, true, false, false, false, true, true, false, false, false, false] rfl rfl (any_of HT_.out (by kernel_rfl)) (fun _ _ _ h => h) (Or.inl ⟨by rfl, ?_⟩) ?_ ?_
            rotate_left
            · intro w'
              go_simp
              with_reducible rfl
            rotate_left
            · simp only [Act.put, List.setIfInBounds_toArray, List.set_cons_zero, List.set_cons_succ, i64_w, i32_w]
              rfl
            refine one_ (i := 6) (N := some 16) #[true, true, true, true, true, true, true, false, false, true, true, false, false, false, false] rfl rfl (one_of HT_.out (by kernel_rfl)) (by decide) (fun K hK => ?_)
            refine goes_ Tryz.func95 (by kernel_rfl) rfl #[.int .i64 a0_1, .int .i64 2] (by rfl) rfl rfl (by (try simp only [List.map_toArray, List.map_cons, List.map_nil]); first | done | rfl | (simp only [List.length_drop, List.length_take]; rfl)) ?_
            with_reducible refine (civil_digits.calls a0_1 2 t143 _ (by first | exact Laid.below HL.out (by repeat (first | (with_reducible first | exact HB.out | apply below_alloc | apply pw_below_drewN | apply below_drew1 | refine below_set ?_ (Aside0.out (by assumption))) | exact HB.out))) A5.out).mono ?_
            rintro e w15 ⟨rfl, hb⟩
            refine ⟨_, rfl, ?_⟩
            have n0_ := Aside0.mk (blk_below (g := gb139) (o := .cells #[.int .i64 a0_0, .int .i64 a0_1, .int .i64 a0_2] 26 (0, 0)) (by (with_reducible repeat (first | refine blk_drewN ?_ _ | refine blk_drew ?_ | refine blk_alloc ?_ _)); exact BK139.out) hb)
            have n1_ := Aside0.mk (below_step (by repeat (first | (with_reducible first | exact HB.out | apply below_alloc | apply pw_below_drewN | apply below_drew1 | refine below_set ?_ GE139.out) | exact HB.out)) hb)
            clear BK139
            clear HB
            have BK139 := n0_
            have HB := n1_
            clear n0_ n1_
            (try clear hb)
            (try clear hb2)
            (try clear hk)
            (try clear hi)
            refine hK.out _ _ ⟨(blk_cell BK139.out 0).trans rfl, (blk_cell BK139.out 1).trans rfl, (blk_cell BK139.out 2).trans rfl⟩ (fun hHeld => ?_)
            clear hK K
            refine norm_ (a' := ?_) ?_ ?_
            rotate_left
            · show Act.put _ (some 16) _ = _
              simp only [Act.put, List.setIfInBounds_toArray, List.set_cons_zero, List.set_cons_succ, i64_w, i32_w]
              rfl
            refine pure_ (i := 7) (N := some 17) (v := ?_) (a' := ?_) #[true, true, true, true, true, true, true, true, false, true, true, false, false, false, false] rfl rfl (any_of HT_.out (by kernel_rfl)) (fun _ _ _ h => h) (Or.inl ⟨by rfl, ?_⟩) ?_ ?_
            rotate_left
            · intro w'
              go_simp
              with_reducible rfl
            rotate_left
            · simp only [Act.put, List.setIfInBounds_toArray, List.set_cons_zero, List.set_cons_succ, i64_w, i32_w]
              rfl
            refine pure_ (i := 8) (N := some 18) (v := ?_) (a' := ?_) #[true, true, true, true, true, true, true, true, true, true, true, false, false, false, false] rfl rfl (any_of HT_.out (by kernel_rfl)) (fun _ _ _ h => h) (Or.inl ⟨by rfl, ?_⟩) ?_ ?_
            rotate_left
            · intro w'
              go_simp
              with_reducible rfl
            rotate_left
            · simp only [Act.put, List.setIfInBounds_toArray, List.set_cons_zero, List.set_cons_succ, i64_w, i32_w]
              rfl
            refine one_ (i := 11) (N := some 21) #[true, true, true, true, true, true, true, true, true, true, true, true, false, false, false] rfl rfl (one_of HT_.out (by kernel_rfl)) (by decide) (fun K hK => ?_)
            refine goes_ Tryz.func95 (by kernel_rfl) rfl #[.int .i64 a0_2, .int .i64 2] (by rfl) rfl rfl (by (try simp only [List.map_toArray, List.map_cons, List.map_nil]); first | done | rfl | (simp only [List.length_drop, List.length_take]; rfl)) ?_
            with_reducible refine (civil_digits.calls a0_2 2 t144 _ (by first | exact Laid.below HL.out (by repeat (first | (with_reducible first | exact HB.out | apply below_alloc | apply pw_below_drewN | apply below_drew1 | refine below_set ?_ (Aside0.out (by assumption))) | exact HB.out))) A8.out).mono ?_
            rintro e w16 ⟨rfl, hb⟩
            refine ⟨_, rfl, ?_⟩
            have n0_ := Aside0.mk (blk_below (g := gb139) (o := .cells #[.int .i64 a0_0, .int .i64 a0_1, .int .i64 a0_2] 26 (0, 0)) (by (with_reducible repeat (first | refine blk_drewN ?_ _ | refine blk_drew ?_ | refine blk_alloc ?_ _)); exact BK139.out) hb)
            have n1_ := Aside0.mk (below_step (by repeat (first | (with_reducible first | exact HB.out | apply below_alloc | apply pw_below_drewN | apply below_drew1 | refine below_set ?_ GE139.out) | exact HB.out)) hb)
            clear BK139
            clear HB
            have BK139 := n0_
            have HB := n1_
            clear n0_ n1_
            (try clear hb)
            (try clear hb2)
            (try clear hk)
            (try clear hi)
            refine hK.out _ _ ⟨(blk_cell BK139.out 0).trans rfl, (blk_cell BK139.out 1).trans rfl, (blk_cell BK139.out 2).trans rfl⟩ (fun hHeld => ?_)
            clear hK K
            refine norm_ (a' := ?_) ?_ ?_
            rotate_left
            · show Act.put _ (some 21) _ = _
              simp only [Act.put, List.setIfInBounds_toArray, List.set_cons_zero, List.set_cons_succ, i64_w, i32_w]
              rfl
            refine pure_ (i := 12) (N := some 22) (v := ?_) (a' := ?_) #[true, true, true, true, true, true, true, true, true, true, true, true, true, false, false] rfl rfl (any_of HT_.out (by kernel_rfl)) (fun _ _ _ h => h) (Or.inl ⟨by rfl, ?_⟩) ?_ ?_
            rotate_left
            · intro w'
              go_simp
              with_reducible rfl
            rotate_left
            · simp only [Act.put, List.setIfInBounds_toArray, List.set_cons_zero, List.set_cons_succ, i64_w, i32_w]
              rfl
            refine pure_ (i := 13) (N := some 2) (v := ?_) (a' := ?_) #[true, true, true, true, true, true, true, true, true, true, true, true, true, true, false] rfl rfl (any_of HT_.out (by kernel_rfl)) (fun _ _ _ h => h) (Or.inl ⟨by rfl, ?_⟩) ?_ ?_
            rotate_left
            · intro w'
              go_simp
              with_reducible rfl
            rotate_left
            · simp only [Act.put, List.setIfInBounds_toArray, List.set_cons_zero, List.set_cons_succ, i64_w, i32_w]
              rfl
            refine pure_ (i := 14) (N := some 3) (v := ?_) (a' := ?_) #[true, true, true, true, true, true, true, true, true, true, true, true, true, true, true] rfl rfl (any_of HT_.out (by kernel_rfl)) (fun _ _ _ h => h) (Or.inl ⟨by rfl, ?_⟩) ?_ ?_
            rotate_left
            · intro w'
              go_simp
              with_reducible rfl
            rotate_left
            · simp only [Act.put, List.setIfInBounds_toArray, List.set_cons_zero, List.set_cons_succ, i64_w, i32_w]
              rfl
            refine done_ (done_of HT_.out (by kernel_rfl)) ?_
            try go_wp2
            go_ret2
            exact ⟨by first | rfl | (simp [errW_none, errW_some] <;> rfl) | (simp [*, errW_none, errW_some] <;> rfl), by repeat (first | (with_reducible first | exact HB.out | apply below_alloc | apply pw_below_drewN | apply below_drew1 | refine below_set ?_ GE139.out) | exact HB.out)⟩
          · rw [if_neg c9] at H
            exact absurd H (by simp)
        · rw [if_neg c7] at H
          exact absurd H (by simp)
      · rw [if_neg c6] at H
        exact absurd H (by simp)
    · rw [if_neg c4] at H
      exact absurd H (by simp)
  · have H1 : (some ((⟨#[]⟩ : ByteArray), some q141)) = some (r1, r2) := by rw [if_neg (show ¬ (some q141).isNone = true by simp)] at H; exact H
    clear H
    have H := H1
    clear H1
    try simp only [errW_none, errW_some]
    simp only [Option.some.injEq, Prod.mk.injEq] at H
    obtain ⟨rfl, rfl⟩ := H
    go_enter Tryz.func26, Tryz.ntmps26
    go_wp2_with (first | ((with_reducible refine gate_dst (N := 1) rfl ?_); refine box_event ?hg (N := 1) ?hd (cs := #[.int .i64 a0_0, .int .i64 a0_1, .int .i64 a0_2]) (t := 26) ?hr ?_; (case hd => rfl); (case hg => rfl); (case hr => first | (go_simp; done) | (go_simp; rfl)); intro gb139 hg w17 hbox hb; have n0_ := Aside0.mk (below_step (by repeat (first | (with_reducible first | exact HB.out | apply below_alloc | apply pw_below_drewN | apply below_drew1) | exact HB.out)) hb); have n1_ := Aside0.mk (hbox); have n2_ := Aside0.mk ((by rw [hg]; exact (below_size (by repeat (first | (with_reducible first | exact HB.out | apply below_alloc | apply pw_below_drewN | apply below_drew1) | exact HB.out))) : w.heap.size ≤ gb139)); have n3_ := Aside0.mk ((by rw [hg]; exact (below_size (by repeat (first | (with_reducible first | exact HB.out | apply below_alloc | apply pw_below_drewN | apply below_drew1) | exact HB.out))) : w.heap.size ≤ gb139)); clear HB; have HB := n0_; have BK139 := n1_; have GW139 := n2_; have GE139 := n3_; clear n0_ n1_ n2_ n3_; clear hb hbox hg; have hcz18_0 : w17.cell? ⟨gb139, 0, none⟩ = some (.int .i64 a0_0) := (blk_cell BK139.out 0).trans rfl; have hcz18_1 : w17.cell? ⟨gb139, 1, none⟩ = some (.int .i64 a0_1) := (blk_cell BK139.out 1).trans rfl; have hcz18_2 : w17.cell? ⟨gb139, 2, none⟩ = some (.int .i64 a0_2) := (blk_cell BK139.out 2).trans rfl; have hfz18_0 := blk_frozen BK139.out 0; have hfz18_1 := blk_frozen BK139.out 1; have hfz18_2 := blk_frozen BK139.out 2) | ((with_reducible refine gate_callee (f := 22) rfl ?_); refine goesL_ (some 6) rfl rfl Tryz.func22 (by kernel_rfl) rfl #[.agg #[.int .i64 a0_0, .int .i64 a0_1, .int .i64 a0_2]] rfl (by (try simp only [List.map_toArray, List.map_cons, List.map_nil]); first | done | rfl | (simp only [List.length_drop, List.length_take]; rfl)) ?_; (with_reducible refine (civil_Check.calls k a0_0 a0_1 a0_2 (some q141) _ A2.out).mono ?_); rintro e w19 ⟨rfl, hb⟩; refine ⟨_, rfl, ?_⟩; have n0_ := Aside0.mk (blk_below (g := gb139) (o := .cells #[.int .i64 a0_0, .int .i64 a0_1, .int .i64 a0_2] 26 (0, 0)) (by (with_reducible repeat (first | refine blk_drewN ?_ _ | refine blk_drew ?_ | refine blk_alloc ?_ _)); exact BK139.out) hb); have n1_ := Aside0.mk (below_step (by repeat (first | (with_reducible first | exact HB.out | apply below_alloc | apply pw_below_drewN | apply below_drew1 | refine below_set ?_ GE139.out) | exact HB.out)) hb); clear BK139; clear HB; have BK139 := n0_; have HB := n1_; clear n0_ n1_; (try clear hb); (try clear hb2); (try clear hk); (try clear hi); (try simp only [errW_none, errW_some])))
    go_ret2
    exact ⟨by first | rfl | (simp [errW_none, errW_some] <;> rfl) | (simp [*, errW_none, errW_some] <;> rfl), by repeat (first | (with_reducible first | exact HB.out | apply below_alloc | apply pw_below_drewN | apply below_drew1 | refine below_set ?_ GE139.out) | exact HB.out)⟩

end Go.Proofs.YtfjifhkgifefeaaGreatDoor.PA
end

section
/- What the printed civil.Text answers: the ten signs of a date that may be. -/
namespace Go.Proofs.YtfjifhkgifefeaaGreatDoor.CivP
open Go.RowKit Go.Proofs.YtfjifhkgifefeaaGreatDoor.PA Go.Proofs.YtfjifhkgifefeaaGreatDoor.CivM Go.Proofs.YtfjifhkgifefeaaGreatDoor.StrM Go.Proofs.YtfjifhkgifefeaaGreatDoor.Giv Go.Proofs.YtfjifhkgifefeaaGreatDoorW.PrintWords

theorem ba_app (a b : List UInt8) : (⟨a.toArray⟩ : ByteArray) ++ ⟨b.toArray⟩ = ⟨(a ++ b).toArray⟩ := by
  apply ByteArray.ext; simp [ByteArray.data_append]
theorem ba_size (a : List UInt8) : (⟨a.toArray⟩ : ByteArray).size = a.length := by simp [ByteArray.size]
theorem itoa_len (n : Int) (w : Nat) (h0 : 0 ≤ n) (h : (n ≤ 99 ∧ 2 ≤ w) ∨ (n ≤ 9999 ∧ 4 ≤ w)) : (Lib.itoa n).length ≤ w := by
  obtain ⟨u, rfl⟩ : ∃ u : Nat, n = u := ⟨n.toNat, by omega⟩
  unfold Lib.itoa
  rw [if_neg (by omega), Int.toNat_natCast]
  by_cases a : u < 10
  · rw [dd1 u a]; simp; omega
  by_cases b : u < 100
  · rw [dd2 u (by omega) b]; simp; omega
  by_cases c : u < 1000
  · rw [dd3 u (by omega) c]; simp; omega
  · rw [dd4 u (by omega) (by omega)]; simp; omega
theorem digits (n : Int) (w : Nat) (h0 : 0 ≤ n) (h : (n ≤ 99 ∧ 2 ≤ w) ∨ (n ≤ 9999 ∧ 4 ≤ w)) (hw : w ≤ 100) : civil_digits.f n w = some ⟨(padded w n).toArray⟩ := by
  have hl := itoa_len n w h0 h
  unfold civil_digits.f strconv_Itoa.f
  rw [if_pos ⟨by omega, by omega⟩]
  simp only [Option.bind_some, ba_size]
  rw [wid (by omega) (by omega)]
  unfold strings_Repeat.f
  have e1 : ((w : Int) - ((Lib.itoa n).length : Int)).toNat = w - (Lib.itoa n).length := by omega
  rw [e1]
  have e2 : (⟨#[48]⟩ : ByteArray).size = 1 := rfl
  rw [e2, if_pos ⟨by omega, by omega, by omega⟩]
  simp only [Option.bind_some]
  rw [ba_size, ba_app]
  have e4 : (Lib.repeatL [48] (w - (Lib.itoa n).length)).length = 1 * (w - (Lib.itoa n).length) := by simp [Lib.repeatL_length]
  rw [e4, if_pos (by omega)]
  rfl
theorem padded_len2 (n : Int) (h0 : 0 ≤ n) (h1 : n ≤ 99) : (padded 2 n).length = 2 := by rw [padded2 n h0 h1]; rfl
theorem padded_len4 (n : Int) (h0 : 0 ≤ n) (h1 : n ≤ 9999) : (padded 4 n).length = 4 := by rw [padded4 n h0 h1]; rfl
theorem text (k : Nat) (y m d : Int) (hk : 2 ≤ k) : civil_Text.f k y m d = some (if vld y m d then (⟨(dtext y m d).toArray⟩, none) else (⟨#[]⟩, some 1)) := by
  unfold civil_Text.f
  rw [check k y m d hk]
  simp only [Option.bind_some]
  by_cases v : vld y m d
  · rw [if_pos v, if_pos v]
    obtain ⟨h1, h2, h3, h4, h5, h6⟩ := id v
    have hd := dim_bd y m
    have D4 := digits y 4 (by omega) (.inr ⟨h2, by omega⟩) (by omega)
    have D2 := digits m 2 (by omega) (.inl ⟨by omega, by omega⟩) (by omega)
    have D3 := digits d 2 (by omega) (.inl ⟨by omega, by omega⟩) (by omega)
    simp only [Option.isNone_none, if_true]
    have L4 := padded_len4 y (by omega) h2
    have L2 := padded_len2 m (by omega) (by omega)
    have L3 := padded_len2 d (by omega) (by omega)
    have e45 : (⟨#[45]⟩ : ByteArray) = ⟨([45] : List UInt8).toArray⟩ := rfl
    rw [show ((4 : Nat) : Int) = 4 from rfl] at D4
    rw [show ((2 : Nat) : Int) = 2 from rfl] at D2 D3
    simp only [D4, D2, D3, Option.bind_some, e45, ba_app, ba_size, List.length_append, L4, L2, L3, List.length_cons, List.length_nil]
    rw [if_pos (by omega), if_pos (by omega), if_pos (by omega), if_pos (by omega)]
    simp [dtext]
  · rw [if_neg v, if_neg v]
    simp
end Go.Proofs.YtfjifhkgifefeaaGreatDoor.CivP
end

section
/- What the printed functions of civil days answer, second part: the day out of reach, the weekday, and the document's days. -/
namespace Go.Proofs.YtfjifhkgifefeaaGreatDoor.CivP
open Go.RowKit Go.Proofs.YtfjifhkgifefeaaGreatDoor.PA Go.Proofs.YtfjifhkgifefeaaGreatDoor.CivM Go.Proofs.YtfjifhkgifefeaaGreatDoorW.PrintWords

theorem of_j0 (k : Nat) (hk : 2 ≤ k) (era c q s t m day : Int) (he0 : -100000000000000 ≤ era) (he1 : era ≤ 9999) (hc : 0 ≤ c) (hc3 : c ≤ 3) (hq : 0 ≤ q) (hq1 : q ≤ 24) (hs : 0 ≤ s) (hs3 : s ≤ 3) (ht : 0 ≤ t) (ht2 : t ≤ 365)
    (hm : m = (5 * t + 2) / 153) (hd : day = 36524 * c + 1461 * q + 365 * s + t) (hd1 : day < 146097) (hy : (day - day / 1460 + day / 36524 - day / 146096) / 365 = 100 * c + 4 * q + s)
    (nv : ¬ vld (400 * era + (100 * c + 4 * q + s) + m / 10) ((m + 2) % 12 + 1) (t - (153 * m + 2) / 5 + 1)) :
    civil_Of.j0 (k + 1) era day false = some (0, 0, 0, some 2) := by
  have hd0 : 0 ≤ day := by clear hy hm; omega
  have hm2 : 0 ≤ m ∧ m ≤ 11 := by clear hy hd; omega
  have w0 : wrap64 ((wrap64 ((wrap64 (day - (wrap64 (Int.tdiv day 1460)))) + (wrap64 (Int.tdiv day 36524)))) - (wrap64 (Int.tdiv day 146096))) = day - day / 1460 + day / 36524 - day / 146096 := by
    clear hm hd hy nv hm2
    simp (disch := omega) only [wid, tdv]
  have nn : 0 ≤ day - day / 1460 + day / 36524 - day / 146096 := by clear hm hd hy nv hm2 w0; omega
  have w1 : wrap64 (Int.tdiv (day - day / 1460 + day / 36524 - day / 146096) 365) = 100 * c + 4 * q + s := by
    clear w0 nv
    rw [tdv nn, hy]; clear hy; rw [wid (by omega) (by omega)]
  have w2 : wrap64 (day - (wrap64 ((wrap64 ((wrap64 (365 * (100 * c + 4 * q + s))) + (wrap64 (Int.tdiv (100 * c + 4 * q + s) 4)))) - (wrap64 (Int.tdiv (100 * c + 4 * q + s) 100))))) = t := by
    clear w0 w1 nn hy nv hm hm2
    have v4 : (100 * c + 4 * q + s) / 4 = 25 * c + q := by omega
    have v1 : (100 * c + 4 * q + s) / 100 = c := by omega
    simp (disch := omega) only [wid, tdv]
    rw [v4, v1]; omega
  have w3 : wrap64 (Int.tdiv (wrap64 ((wrap64 (5 * t)) + 2)) 153) = m := by
    clear w0 w1 w2 nn hy nv hd hd0 hd1 hm2
    simp (disch := omega) only [wid, tdv]
    omega
  have w4 : wrap64 ((wrap64 ((wrap64 (400 * era)) + (100 * c + 4 * q + s))) + (wrap64 (Int.tdiv m 10))) = 400 * era + (100 * c + 4 * q + s) + m / 10 := by
    clear w0 w1 w2 w3 nn hy nv hd hd0 hd1 hm
    simp (disch := omega) only [wid, tdv]
  have w5 : wrap64 ((Int.tmod (wrap64 (m + 2)) 12) + 1) = (m + 2) % 12 + 1 := by
    clear w0 w1 w2 w3 w4 nn hy nv hd hd0 hd1 hm
    simp (disch := omega) only [wid, tmd]
  have w6 : wrap64 ((wrap64 (t - (wrap64 (Int.tdiv (wrap64 ((wrap64 (153 * m)) + 2)) 5)))) + 1) = t - (153 * m + 2) / 5 + 1 := by
    clear w0 w1 w2 w3 w4 w5 nn hy nv hd hd0 hd1 hm
    simp (disch := omega) only [wid, tdv]
  simp only [civil_Of.j0, Bool.false_eq_true, if_false]
  simp only [w0, w1, w2, w3, w4, w5, w6]
  rw [check k _ _ _ hk, if_neg nv]
  simp only [Option.bind_some, Option.isNone_some, Bool.false_eq_true, if_false]
theorem of_no (k : Nat) (n : Int) (hk : 3 ≤ k) (w0 : -9223372036854775808 ≤ n) (w1 : n ≤ 9223372036854775807) (h : n < -719162 ∨ 2932896 < n) : civil_Of.f k n = some (0, 0, 0, some 2) := by
  obtain ⟨k, rfl⟩ : ∃ j, k = j + 1 := ⟨k - 1, by omega⟩
  unfold civil_Of.f
  rw [add_ok w0 w1 (by omega) (by omega)]
  by_cases hs : n + 719468 ≤ 9223372036854775807
  · rw [if_pos hs]
    simp only [Option.bind_some, Option.isNone_none, if_true]
    rw [div_any (by omega) (by omega) (by omega) (by omega)]
    simp only [Option.bind_some, Option.isNone_none, if_true]
    have hera0 : -100000000000000 ≤ (n + 719468) / 146097 := by omega
    have hday : 146097 * ((n + 719468) / 146097) + (n + 719468) % 146097 = n + 719468 := by omega
    have hd0 : 0 ≤ (n + 719468) % 146097 ∧ (n + 719468) % 146097 < 146097 := by omega
    generalize (n + 719468) / 146097 = era at *
    generalize (n + 719468) % 146097 = day at *
    by_cases he : era > 9999
    · rw [decide_eq_true he]
      simp only [civil_Of.j0, if_true]
    · rw [decide_eq_false he]
      obtain ⟨c, q, s, t, hd, hc, hc3, hq, hq1, hs, hs3, ht, hx⟩ := dec day hd0.1 hd0.2
      have hy := yoe_eq c q s t hc hc3 hq hq1 hs hs3 ht hx
      rw [← hd] at hy
      unfold yoe at hy
      refine of_j0 k (by omega) era c q s t ((5 * t + 2) / 153) day hera0 (by omega) hc hc3 hq hq1 hs hs3 ht (by omega) rfl hd hd0.2 hy ?_
      intro v
      have P := (of_parts era c q s t ((5 * t + 2) / 153) hc hc3 hq hq1 hs hs3 ht hx rfl).2.2.2.2
      have b := num_bd v
      rw [P, ← hd] at b
      clear hy v P
      omega
  · rw [if_neg hs]
    simp

theorem weekday {n : Int} (w0 : -9223372036854775808 ≤ n) (w1 : n ≤ 9223372036854775807) : civil_Weekday.f n = some ((n + 3) % 7 + 1) := by
  unfold civil_Weekday.f
  rw [div_any w0 w1 (by omega) (by omega)]
  simp only [Option.bind_some, Option.isNone_none, if_true]
  have h := Int.emod_nonneg n (show (7:Int) ≠ 0 by omega)
  have h2 := Int.emod_lt_of_pos n (show (0:Int) < 7 by omega)
  simp (disch := omega) only [wid, tmd]
  congr 1; omega
/-! ### the document's days -/
theorem ryear_l (k : Nat) : ∀ (x0 x3 x4 : Int), 1 ≤ x4 → x0 ≤ 20000 → x3 = dby x4 → x4 ≤ x0 → (x0 - x4).toNat < k → fuseeref07_year.l0 k x0 x3 x4 = some (dby x0) := by
  induction k with
  | zero => intro x0 x3 x4 _ _ _ _ h; omega
  | succ k ih =>
    intro x0 x3 x4 h1 h2 h3 h4 h5
    have hb : 0 ≤ dby x4 := by have := dby_mono 1 x4 h1; have e4 : dby 1 = 0 := by decide
                               omega
    have hb2 : dby x4 ≤ 10000000 := by have := dby_mono x4 20000 (by omega); have e4 : dby 20000 = 7304485 - 1 + 0 := by decide
                                       omega
    have L := lpI_01 x4
    have e := dby_succ x4
    simp only [fuseeref07_year.l0]
    by_cases h : x4 < x0
    · rw [if_pos h, rleap]
      simp only [Option.bind_some]
      subst h3
      by_cases hl : lpI x4 = 1
      · rw [decide_eq_true hl]; simp only [if_true]
        simp (disch := omega) only [wid]
        exact ih _ _ _ (by omega) h2 (by omega) (by omega) (by omega)
      · rw [decide_eq_false hl]; simp only [Bool.false_eq_true, if_false]
        simp (disch := omega) only [wid]
        exact ih _ _ _ (by omega) h2 (by omega) (by omega) (by omega)
    · rw [if_neg h]
      have : x4 = x0 := by omega
      rw [h3, this]
theorem ryear (k : Nat) (y : Int) (h1 : 1 ≤ y) (h2 : y ≤ 20000) (hk : 20001 ≤ k) : fuseeref07_year.f k y = some (dby y) :=
  ryear_l k y 0 1 (by omega) h2 (by decide) h1 (by omega)
theorem rdays_l (k : Nat) : ∀ (x3 x4 y m d : Int), vld y m d → 1 ≤ x4 → x4 ≤ m → x3 = dby y + cum y x4 → (m - x4).toNat + 2 ≤ k → fuseeref07_Days.l0 k x3 x4 y m d = some (num y m d) := by
  induction k with
  | zero => intro x3 x4 y m d _ _ _ _ h; omega
  | succ k ih =>
    intro x3 x4 y m d v h1 h2 h3 h4
    have hv := v
    obtain ⟨v1, v2, v3, v4, v5, v6⟩ := v
    have hd := dim_bd y m
    have hd4 := dim_bd y x4
    have hb : 0 ≤ dby y := by have := dby_mono 1 y v1; have e4 : dby 1 = 0 := by decide
                              omega
    have hb2 : dby y ≤ 10000000 := by have := dby_mono y 20000 (by omega); have e4 : dby 20000 = 7304485 - 1 + 0 := by decide
                                      omega
    have hc : 0 ≤ cum y x4 ∧ cum y x4 ≤ 400 := by
      have := lpI_01 y
      have c1 := cum_le y x4 1 h1 (by omega) (by omega) (by have := dim_pos y x4 h1 (by omega); omega)
      omega
    simp only [fuseeref07_Days.l0]
    by_cases h : x4 < m
    · rw [if_pos h, rmonth k y x4 (by omega)]
      simp only [Option.bind_some]
      have e := cum_succ y x4 h1 (by omega)
      simp (disch := omega) only [wid]
      exact ih _ _ _ _ _ hv (by omega) (by omega) (by omega) (by omega)
    · rw [if_neg h]
      have : x4 = m := by omega
      subst this
      simp (disch := omega) only [wid]
      unfold num; congr 1; omega
end Go.Proofs.YtfjifhkgifefeaaGreatDoor.CivP
end

section
namespace Go.Proofs.YtfjifhkgifefeaaGreatDoor.PA
open Go.Proofs.YtfjifhkgifefeaaGreatDoor.Giv Go.RowKit Go.Proofs.YtfjifhkgifefeaaGreatDoorW.PrintWords Go.Proofs.YtfjifhkgifefeaaGreatDoorW.PrintLast Go.Proofs.YtfjifhkgifefeaaGreatDoorW.PrintMore
attribute [local go_sem] max2_int min2_int max_two min_two max_three min_three max_four min_four   -- for this text's walks alone
set_option linter.unusedVariables false
set_option linter.unusedSimpArgs false

theorem eqA50 (d : Nat) (w : World) (x0 y0 : Int) (x1 y1 : Int) (x2 y2 : Int) :
    (Op.equalIn (d + 2) 50 (.agg #[.int .i64 x0, .int .i64 x1, .int .i64 x2]) (.agg #[.int .i64 y0, .int .i64 y1, .int .i64 y2])).run Tryz.prog w = .ok (x0 == y0 && (x1 == y1 && (x2 == y2))) w := by
  refine eqA_of Tryz.underlying50 (by kernel_rfl) ?_
  refine eqf_cons (by rfl) (by go_simp; rfl) (by go_simp; rfl) (by go_simp) ?_
  refine eqf_cons (by rfl) (by go_simp; rfl) (by go_simp; rfl) (by go_simp) ?_
  exact eqf_last (by rfl) (by go_simp; rfl) (by go_simp; rfl) (by go_simp)
end Go.Proofs.YtfjifhkgifefeaaGreatDoor.PA
end

section
namespace Go.Proofs.YtfjifhkgifefeaaGreatDoor.PA
open Go.Proofs.YtfjifhkgifefeaaGreatDoor.Giv Go.RowKit Go.Proofs.YtfjifhkgifefeaaGreatDoorW.PrintWords Go.Proofs.YtfjifhkgifefeaaGreatDoorW.PrintLast Go.Proofs.YtfjifhkgifefeaaGreatDoorW.PrintMore
attribute [local go_sem] max2_int min2_int max_two min_two max_three min_three max_four min_four   -- for this text's walks alone
set_option linter.unusedVariables false
set_option linter.unusedSimpArgs false

attribute [local go_sem high] eqA50
/-! ### daytime_Check: function 35 -/
def daytime_Check.f (a0_0 : Int) (a0_1 : Int) (a0_2 : Int) : Option (Option Int) := if (a0_0 == 23 && (a0_1 == 59 && (a0_2 == 60))) = true then (some none) else (if a0_0 < 0 then (some (some 1)) else (if a0_0 > 23 then (some (some 1)) else (if a0_1 < 0 then (some (some 1)) else (if a0_1 > 59 then (some (some 1)) else (if a0_2 < 0 then (some (some 1)) else (if a0_2 > 59 then (some (some 1)) else (some none)))))))
set_option maxHeartbeats 8000000 in
set_option maxRecDepth 100000 in
theorem daytime_Check.calls (a0_0 : Int) (a0_1 : Int) (a0_2 : Int) (r : Option Int) (w : World) (h : daytime_Check.f a0_0 a0_1 a0_2 = some r) :
    Calls Tryz.prog 35 #[.agg #[.int .i64 a0_0, .int .i64 a0_1, .int .i64 a0_2]] w fun e w' => e = .returned (errW r) ∧ Below w.heap.size w w' := by
  have hu50 := Tryz.underlying50
  have hu28 := Tryz.underlying28
  have hu157 := Tryz.underlying157
  have HB := Aside0.mk (Below.refl w.heap.size w)
  have H : (if (a0_0 == 23 && (a0_1 == 59 && (a0_2 == 60))) = true then (some none) else (if a0_0 < 0 then (some (some 1)) else (if a0_0 > 23 then (some (some 1)) else (if a0_1 < 0 then (some (some 1)) else (if a0_1 > 59 then (some (some 1)) else (if a0_2 < 0 then (some (some 1)) else (if a0_2 > 59 then (some (some 1)) else (some none)))))))) = some r := h
  clear h
  by_cases c2 : (a0_0 == 23 && (a0_1 == 59 && (a0_2 == 60))) = true
  · rw [if_pos c2] at H
    have c2b0 : (a0_0 == 23 && (a0_1 == 59 && (a0_2 == 60))) = true := c2
    (try (have c2b1 : decide (a0_0 = 23 && (a0_1 == 59 && (a0_2 == 60))) = true := by simpa using c2))
    (try (have c2b2 : (a0_0 == 23 && (a0_1 == 59 && (a0_2 == 60))) = true := by simpa using c2))
    clear c2
    obtain rfl := Option.some.inj H
    go_enter Tryz.func35, Tryz.ntmps35
    go_wp2_with (first | ((with_reducible refine gate_dst (N := 1) rfl ?_); refine box_event ?hg (N := 1) ?hd (cs := #[.int .i64 a0_0, .int .i64 a0_1, .int .i64 a0_2]) (t := 50) ?hr ?_; (case hd => rfl); (case hg => rfl); (case hr => first | (go_simp; done) | (go_simp; rfl)); intro gb245 hg w3 hbox hb; have n0_ := Aside0.mk (below_step (by repeat (first | (with_reducible first | exact HB.out | apply below_alloc | apply pw_below_drewN | apply below_drew1) | exact HB.out)) hb); have n1_ := Aside0.mk (hbox); have n2_ := Aside0.mk ((by rw [hg]; exact (below_size (by repeat (first | (with_reducible first | exact HB.out | apply below_alloc | apply pw_below_drewN | apply below_drew1) | exact HB.out))) : w.heap.size ≤ gb245)); have n3_ := Aside0.mk ((by rw [hg]; exact (below_size (by repeat (first | (with_reducible first | exact HB.out | apply below_alloc | apply pw_below_drewN | apply below_drew1) | exact HB.out))) : w.heap.size ≤ gb245)); clear HB; have HB := n0_; have BK245 := n1_; have GW245 := n2_; have GE245 := n3_; clear n0_ n1_ n2_ n3_; clear hb hbox hg; have hcz4_0 : w3.cell? ⟨gb245, 0, none⟩ = some (.int .i64 a0_0) := (blk_cell BK245.out 0).trans rfl; have hcz4_1 : w3.cell? ⟨gb245, 1, none⟩ = some (.int .i64 a0_1) := (blk_cell BK245.out 1).trans rfl; have hcz4_2 : w3.cell? ⟨gb245, 2, none⟩ = some (.int .i64 a0_2) := (blk_cell BK245.out 2).trans rfl; have hfz4_0 := blk_frozen BK245.out 0; have hfz4_1 := blk_frozen BK245.out 1; have hfz4_2 := blk_frozen BK245.out 2))
    go_ret
    exact ⟨by first | rfl | (simp [errW_none, errW_some] <;> rfl) | (simp [*, errW_none, errW_some] <;> rfl), by repeat (first | (with_reducible first | exact HB.out | apply below_alloc | apply pw_below_drewN | apply below_drew1 | refine below_set ?_ GE245.out) | exact HB.out)⟩
  · rw [if_neg c2] at H
    have c2b0 : (a0_0 == 23 && (a0_1 == 59 && (a0_2 == 60))) = false := by simpa using c2
    (try (have c2b1 : decide (a0_0 = 23 && (a0_1 == 59 && (a0_2 == 60))) = false := by simpa using c2))
    (try (have c2b2 : (a0_0 == 23 && (a0_1 == 59 && (a0_2 == 60))) = false := by simpa using c2))
    (try (have c2b3 : ¬ (a0_0 = 23 && (a0_1 == 59 && (a0_2 == 60))) := by simpa using c2))
    clear c2
    by_cases c5 : a0_0 < 0
    · rw [if_pos c5] at H
      have c5b0 : decide (a0_0 < 0) = true := decide_eq_true c5
      clear c5
      obtain rfl := Option.some.inj H
      go_enter Tryz.func35, Tryz.ntmps35
      go_wp2_with (first | ((with_reducible refine gate_dst (N := 1) rfl ?_); refine box_event ?hg (N := 1) ?hd (cs := #[.int .i64 a0_0, .int .i64 a0_1, .int .i64 a0_2]) (t := 50) ?hr ?_; (case hd => rfl); (case hg => rfl); (case hr => first | (go_simp; done) | (go_simp; rfl)); intro gb245 hg w6 hbox hb; have n0_ := Aside0.mk (below_step (by repeat (first | (with_reducible first | exact HB.out | apply below_alloc | apply pw_below_drewN | apply below_drew1) | exact HB.out)) hb); have n1_ := Aside0.mk (hbox); have n2_ := Aside0.mk ((by rw [hg]; exact (below_size (by repeat (first | (with_reducible first | exact HB.out | apply below_alloc | apply pw_below_drewN | apply below_drew1) | exact HB.out))) : w.heap.size ≤ gb245)); have n3_ := Aside0.mk ((by rw [hg]; exact (below_size (by repeat (first | (with_reducible first | exact HB.out | apply below_alloc | apply pw_below_drewN | apply below_drew1) | exact HB.out))) : w.heap.size ≤ gb245)); clear HB; have HB := n0_; have BK245 := n1_; have GW245 := n2_; have GE245 := n3_; clear n0_ n1_ n2_ n3_; clear hb hbox hg; have hcz7_0 : w6.cell? ⟨gb245, 0, none⟩ = some (.int .i64 a0_0) := (blk_cell BK245.out 0).trans rfl; have hcz7_1 : w6.cell? ⟨gb245, 1, none⟩ = some (.int .i64 a0_1) := (blk_cell BK245.out 1).trans rfl; have hcz7_2 : w6.cell? ⟨gb245, 2, none⟩ = some (.int .i64 a0_2) := (blk_cell BK245.out 2).trans rfl; have hfz7_0 := blk_frozen BK245.out 0; have hfz7_1 := blk_frozen BK245.out 1; have hfz7_2 := blk_frozen BK245.out 2))
      go_ret
      exact ⟨by first | rfl | (simp [errW_none, errW_some] <;> rfl) | (simp [*, errW_none, errW_some] <;> rfl), by repeat (first | (with_reducible first | exact HB.out | apply below_alloc | apply pw_below_drewN | apply below_drew1 | refine below_set ?_ GE245.out) | exact HB.out)⟩
    · rw [if_neg c5] at H
      have c5b0 : decide (a0_0 < 0) = false := decide_eq_false c5
      clear c5
      by_cases c8 : a0_0 > 23
      · rw [if_pos c8] at H
        have c8b0 : decide (23 < a0_0) = true := decide_eq_true c8
        clear c8
        obtain rfl := Option.some.inj H
        go_enter Tryz.func35, Tryz.ntmps35
        go_wp2_with (first | ((with_reducible refine gate_dst (N := 1) rfl ?_); refine box_event ?hg (N := 1) ?hd (cs := #[.int .i64 a0_0, .int .i64 a0_1, .int .i64 a0_2]) (t := 50) ?hr ?_; (case hd => rfl); (case hg => rfl); (case hr => first | (go_simp; done) | (go_simp; rfl)); intro gb245 hg w9 hbox hb; have n0_ := Aside0.mk (below_step (by repeat (first | (with_reducible first | exact HB.out | apply below_alloc | apply pw_below_drewN | apply below_drew1) | exact HB.out)) hb); have n1_ := Aside0.mk (hbox); have n2_ := Aside0.mk ((by rw [hg]; exact (below_size (by repeat (first | (with_reducible first | exact HB.out | apply below_alloc | apply pw_below_drewN | apply below_drew1) | exact HB.out))) : w.heap.size ≤ gb245)); have n3_ := Aside0.mk ((by rw [hg]; exact (below_size (by repeat (first | (with_reducible first | exact HB.out | apply below_alloc | apply pw_below_drewN | apply below_drew1) | exact HB.out))) : w.heap.size ≤ gb245)); clear HB; have HB := n0_; have BK245 := n1_; have GW245 := n2_; have GE245 := n3_; clear n0_ n1_ n2_ n3_; clear hb hbox hg; have hcz10_0 : w9.cell? ⟨gb245, 0, none⟩ = some (.int .i64 a0_0) := (blk_cell BK245.out 0).trans rfl; have hcz10_1 : w9.cell? ⟨gb245, 1, none⟩ = some (.int .i64 a0_1) := (blk_cell BK245.out 1).trans rfl; have hcz10_2 : w9.cell? ⟨gb245, 2, none⟩ = some (.int .i64 a0_2) := (blk_cell BK245.out 2).trans rfl; have hfz10_0 := blk_frozen BK245.out 0; have hfz10_1 := blk_frozen BK245.out 1; have hfz10_2 := blk_frozen BK245.out 2))
        go_ret
        exact ⟨by first | rfl | (simp [errW_none, errW_some] <;> rfl) | (simp [*, errW_none, errW_some] <;> rfl), by repeat (first | (with_reducible first | exact HB.out | apply below_alloc | apply pw_below_drewN | apply below_drew1 | refine below_set ?_ GE245.out) | exact HB.out)⟩
      · rw [if_neg c8] at H
        have c8b0 : decide (23 < a0_0) = false := decide_eq_false c8
        clear c8
        by_cases c11 : a0_1 < 0
        · rw [if_pos c11] at H
          have c11b0 : decide (a0_1 < 0) = true := decide_eq_true c11
          clear c11
          obtain rfl := Option.some.inj H
          go_enter Tryz.func35, Tryz.ntmps35
          go_wp2_with (first | ((with_reducible refine gate_dst (N := 1) rfl ?_); refine box_event ?hg (N := 1) ?hd (cs := #[.int .i64 a0_0, .int .i64 a0_1, .int .i64 a0_2]) (t := 50) ?hr ?_; (case hd => rfl); (case hg => rfl); (case hr => first | (go_simp; done) | (go_simp; rfl)); intro gb245 hg w12 hbox hb; have n0_ := Aside0.mk (below_step (by repeat (first | (with_reducible first | exact HB.out | apply below_alloc | apply pw_below_drewN | apply below_drew1) | exact HB.out)) hb); have n1_ := Aside0.mk (hbox); have n2_ := Aside0.mk ((by rw [hg]; exact (below_size (by repeat (first | (with_reducible first | exact HB.out | apply below_alloc | apply pw_below_drewN | apply below_drew1) | exact HB.out))) : w.heap.size ≤ gb245)); have n3_ := Aside0.mk ((by rw [hg]; exact (below_size (by repeat (first | (with_reducible first | exact HB.out | apply below_alloc | apply pw_below_drewN | apply below_drew1) | exact HB.out))) : w.heap.size ≤ gb245)); clear HB; have HB := n0_; have BK245 := n1_; have GW245 := n2_; have GE245 := n3_; clear n0_ n1_ n2_ n3_; clear hb hbox hg; have hcz13_0 : w12.cell? ⟨gb245, 0, none⟩ = some (.int .i64 a0_0) := (blk_cell BK245.out 0).trans rfl; have hcz13_1 : w12.cell? ⟨gb245, 1, none⟩ = some (.int .i64 a0_1) := (blk_cell BK245.out 1).trans rfl; have hcz13_2 : w12.cell? ⟨gb245, 2, none⟩ = some (.int .i64 a0_2) := (blk_cell BK245.out 2).trans rfl; have hfz13_0 := blk_frozen BK245.out 0; have hfz13_1 := blk_frozen BK245.out 1; have hfz13_2 := blk_frozen BK245.out 2))
          go_ret
          exact ⟨by first | rfl | (simp [errW_none, errW_some] <;> rfl) | (simp [*, errW_none, errW_some] <;> rfl), by repeat (first | (with_reducible first | exact HB.out | apply below_alloc | apply pw_below_drewN | apply below_drew1 | refine below_set ?_ GE245.out) | exact HB.out)⟩
        · rw [if_neg c11] at H
          have c11b0 : decide (a0_1 < 0) = false := decide_eq_false c11
          clear c11
          by_cases c14 : a0_1 > 59
          · rw [if_pos c14] at H
            have c14b0 : decide (59 < a0_1) = true := decide_eq_true c14
            clear c14
            obtain rfl := Option.some.inj H
            go_enter Tryz.func35, Tryz.ntmps35
            go_wp2_with (first | ((with_reducible refine gate_dst (N := 1) rfl ?_); refine box_event ?hg (N := 1) ?hd (cs := #[.int .i64 a0_0, .int .i64 a0_1, .int .i64 a0_2]) (t := 50) ?hr ?_; (case hd => rfl); (case hg => rfl); (case hr => first | (go_simp; done) | (go_simp; rfl)); intro gb245 hg w15 hbox hb; have n0_ := Aside0.mk (below_step (by repeat (first | (with_reducible first | exact HB.out | apply below_alloc | apply pw_below_drewN | apply below_drew1) | exact HB.out)) hb); have n1_ := Aside0.mk (hbox); have n2_ := Aside0.mk ((by rw [hg]; exact (below_size (by repeat (first | (with_reducible first | exact HB.out | apply below_alloc | apply pw_below_drewN | apply below_drew1) | exact HB.out))) : w.heap.size ≤ gb245)); have n3_ := Aside0.mk ((by rw [hg]; exact (below_size (by repeat (first | (with_reducible first | exact HB.out | apply below_alloc | apply pw_below_drewN | apply below_drew1) | exact HB.out))) : w.heap.size ≤ gb245)); clear HB; have HB := n0_; have BK245 := n1_; have GW245 := n2_; have GE245 := n3_; clear n0_ n1_ n2_ n3_; clear hb hbox hg; have hcz16_0 : w15.cell? ⟨gb245, 0, none⟩ = some (.int .i64 a0_0) := (blk_cell BK245.out 0).trans rfl; have hcz16_1 : w15.cell? ⟨gb245, 1, none⟩ = some (.int .i64 a0_1) := (blk_cell BK245.out 1).trans rfl; have hcz16_2 : w15.cell? ⟨gb245, 2, none⟩ = some (.int .i64 a0_2) := (blk_cell BK245.out 2).trans rfl; have hfz16_0 := blk_frozen BK245.out 0; have hfz16_1 := blk_frozen BK245.out 1; have hfz16_2 := blk_frozen BK245.out 2))
            go_ret
            exact ⟨by first | rfl | (simp [errW_none, errW_some] <;> rfl) | (simp [*, errW_none, errW_some] <;> rfl), by repeat (first | (with_reducible first | exact HB.out | apply below_alloc | apply pw_below_drewN | apply below_drew1 | refine below_set ?_ GE245.out) | exact HB.out)⟩
          · rw [if_neg c14] at H
            have c14b0 : decide (59 < a0_1) = false := decide_eq_false c14
            clear c14
            by_cases c17 : a0_2 < 0
            · rw [if_pos c17] at H
              have c17b0 : decide (a0_2 < 0) = true := decide_eq_true c17
              clear c17
              obtain rfl := Option.some.inj H
              go_enter Tryz.func35, Tryz.ntmps35
              go_wp2_with (first | ((with_reducible refine gate_dst (N := 1) rfl ?_); refine box_event ?hg (N := 1) ?hd (cs := #[.int .i64 a0_0, .int .i64 a0_1, .int .i64 a0_2]) (t := 50) ?hr ?_; (case hd => rfl); (case hg => rfl); (case hr => first | (go_simp; done) | (go_simp; rfl)); intro gb245 hg w18 hbox hb; have n0_ := Aside0.mk (below_step (by repeat (first | (with_reducible first | exact HB.out | apply below_alloc | apply pw_below_drewN | apply below_drew1) | exact HB.out)) hb); have n1_ := Aside0.mk (hbox); have n2_ := Aside0.mk ((by rw [hg]; exact (below_size (by repeat (first | (with_reducible first | exact HB.out | apply below_alloc | apply pw_below_drewN | apply below_drew1) | exact HB.out))) : w.heap.size ≤ gb245)); have n3_ := Aside0.mk ((by rw [hg]; exact (below_size (by repeat (first | (with_reducible first | exact HB.out | apply below_alloc | apply pw_below_drewN | apply below_drew1) | exact HB.out))) : w.heap.size ≤ gb245)); clear HB; have HB := n0_; have BK245 := n1_; have GW245 := n2_; have GE245 := n3_; clear n0_ n1_ n2_ n3_; clear hb hbox hg; have hcz19_0 : w18.cell? ⟨gb245, 0, none⟩ = some (.int .i64 a0_0) := (blk_cell BK245.out 0).trans rfl; have hcz19_1 : w18.cell? ⟨gb245, 1, none⟩ = some (.int .i64 a0_1) := (blk_cell BK245.out 1).trans rfl; have hcz19_2 : w18.cell? ⟨gb245, 2, none⟩ = some (.int .i64 a0_2) := (blk_cell BK245.out 2).trans rfl; have hfz19_0 := blk_frozen BK245.out 0; have hfz19_1 := blk_frozen BK245.out 1; have hfz19_2 := blk_frozen BK245.out 2))
              go_ret
              exact ⟨by first | rfl | (simp [errW_none, errW_some] <;> rfl) | (simp [*, errW_none, errW_some] <;> rfl), by repeat (first | (with_reducible first | exact HB.out | apply below_alloc | apply pw_below_drewN | apply below_drew1 | refine below_set ?_ GE245.out) | exact HB.out)⟩
            · rw [if_neg c17] at H
              have c17b0 : decide (a0_2 < 0) = false := decide_eq_false c17
              clear c17
              by_cases c20 : a0_2 > 59
              · rw [if_pos c20] at H
                have c20b0 : decide (59 < a0_2) = true := decide_eq_true c20
                clear c20
                obtain rfl := Option.some.inj H
                go_enter Tryz.func35, Tryz.ntmps35
                go_wp2_with (first | ((with_reducible refine gate_dst (N := 1) rfl ?_); refine box_event ?hg (N := 1) ?hd (cs := #[.int .i64 a0_0, .int .i64 a0_1, .int .i64 a0_2]) (t := 50) ?hr ?_; (case hd => rfl); (case hg => rfl); (case hr => first | (go_simp; done) | (go_simp; rfl)); intro gb245 hg w21 hbox hb; have n0_ := Aside0.mk (below_step (by repeat (first | (with_reducible first | exact HB.out | apply below_alloc | apply pw_below_drewN | apply below_drew1) | exact HB.out)) hb); have n1_ := Aside0.mk (hbox); have n2_ := Aside0.mk ((by rw [hg]; exact (below_size (by repeat (first | (with_reducible first | exact HB.out | apply below_alloc | apply pw_below_drewN | apply below_drew1) | exact HB.out))) : w.heap.size ≤ gb245)); have n3_ := Aside0.mk ((by rw [hg]; exact (below_size (by repeat (first | (with_reducible first | exact HB.out | apply below_alloc | apply pw_below_drewN | apply below_drew1) | exact HB.out))) : w.heap.size ≤ gb245)); clear HB; have HB := n0_; have BK245 := n1_; have GW245 := n2_; have GE245 := n3_; clear n0_ n1_ n2_ n3_; clear hb hbox hg; have hcz22_0 : w21.cell? ⟨gb245, 0, none⟩ = some (.int .i64 a0_0) := (blk_cell BK245.out 0).trans rfl; have hcz22_1 : w21.cell? ⟨gb245, 1, none⟩ = some (.int .i64 a0_1) := (blk_cell BK245.out 1).trans rfl; have hcz22_2 : w21.cell? ⟨gb245, 2, none⟩ = some (.int .i64 a0_2) := (blk_cell BK245.out 2).trans rfl; have hfz22_0 := blk_frozen BK245.out 0; have hfz22_1 := blk_frozen BK245.out 1; have hfz22_2 := blk_frozen BK245.out 2))
                go_ret
                exact ⟨by first | rfl | (simp [errW_none, errW_some] <;> rfl) | (simp [*, errW_none, errW_some] <;> rfl), by repeat (first | (with_reducible first | exact HB.out | apply below_alloc | apply pw_below_drewN | apply below_drew1 | refine below_set ?_ GE245.out) | exact HB.out)⟩
              · rw [if_neg c20] at H
                have c20b0 : decide (59 < a0_2) = false := decide_eq_false c20
                clear c20
                obtain rfl := Option.some.inj H
                go_enter Tryz.func35, Tryz.ntmps35
                go_wp2_with (first | ((with_reducible refine gate_dst (N := 1) rfl ?_); refine box_event ?hg (N := 1) ?hd (cs := #[.int .i64 a0_0, .int .i64 a0_1, .int .i64 a0_2]) (t := 50) ?hr ?_; (case hd => rfl); (case hg => rfl); (case hr => first | (go_simp; done) | (go_simp; rfl)); intro gb245 hg w23 hbox hb; have n0_ := Aside0.mk (below_step (by repeat (first | (with_reducible first | exact HB.out | apply below_alloc | apply pw_below_drewN | apply below_drew1) | exact HB.out)) hb); have n1_ := Aside0.mk (hbox); have n2_ := Aside0.mk ((by rw [hg]; exact (below_size (by repeat (first | (with_reducible first | exact HB.out | apply below_alloc | apply pw_below_drewN | apply below_drew1) | exact HB.out))) : w.heap.size ≤ gb245)); have n3_ := Aside0.mk ((by rw [hg]; exact (below_size (by repeat (first | (with_reducible first | exact HB.out | apply below_alloc | apply pw_below_drewN | apply below_drew1) | exact HB.out))) : w.heap.size ≤ gb245)); clear HB; have HB := n0_; have BK245 := n1_; have GW245 := n2_; have GE245 := n3_; clear n0_ n1_ n2_ n3_; clear hb hbox hg; have hcz24_0 : w23.cell? ⟨gb245, 0, none⟩ = some (.int .i64 a0_0) := (blk_cell BK245.out 0).trans rfl; have hcz24_1 : w23.cell? ⟨gb245, 1, none⟩ = some (.int .i64 a0_1) := (blk_cell BK245.out 1).trans rfl; have hcz24_2 : w23.cell? ⟨gb245, 2, none⟩ = some (.int .i64 a0_2) := (blk_cell BK245.out 2).trans rfl; have hfz24_0 := blk_frozen BK245.out 0; have hfz24_1 := blk_frozen BK245.out 1; have hfz24_2 := blk_frozen BK245.out 2))
                go_ret
                exact ⟨by first | rfl | (simp [errW_none, errW_some] <;> rfl) | (simp [*, errW_none, errW_some] <;> rfl), by repeat (first | (with_reducible first | exact HB.out | apply below_alloc | apply pw_below_drewN | apply below_drew1 | refine below_set ?_ GE245.out) | exact HB.out)⟩

end Go.Proofs.YtfjifhkgifefeaaGreatDoor.PA
end

section
namespace Go.Proofs.YtfjifhkgifefeaaGreatDoor.PA
open Go.Proofs.YtfjifhkgifefeaaGreatDoor.Giv Go.RowKit Go.Proofs.YtfjifhkgifefeaaGreatDoorW.PrintWords Go.Proofs.YtfjifhkgifefeaaGreatDoorW.PrintLast Go.Proofs.YtfjifhkgifefeaaGreatDoorW.PrintMore
attribute [local go_sem] max2_int min2_int max_two min_two max_three min_three max_four min_four   -- for this text's walks alone
set_option linter.unusedVariables false
set_option linter.unusedSimpArgs false

/-! ### daytime_Seconds: function 32 -/
def daytime_Seconds.f (a0_0 : Int) (a0_1 : Int) (a0_2 : Int) : Option (Int × Option Int) := (daytime_Check.f a0_0 a0_1 a0_2).bind fun t247 => (if t247.isNone = true then (some (wrap64 ((wrap64 ((wrap64 (a0_0 * 3600)) + (wrap64 (a0_1 * 60)))) + a0_2), none)) else (some (0, some (t247.getD 0))))
set_option maxHeartbeats 8000000 in
set_option maxRecDepth 100000 in
theorem daytime_Seconds.calls (a0_0 : Int) (a0_1 : Int) (a0_2 : Int) (r1 : Int) (r2 : Option Int) (w : World) (h : daytime_Seconds.f a0_0 a0_1 a0_2 = some (r1, r2)) :
    Calls Tryz.prog 32 #[.agg #[.int .i64 a0_0, .int .i64 a0_1, .int .i64 a0_2]] w fun e w' => e = .returned (.tuple #[.int .i64 r1, errW r2]) ∧ Below w.heap.size w w' := by
  have hu50 := Tryz.underlying50
  have hu28 := Tryz.underlying28
  have hu157 := Tryz.underlying157
  have HB := Aside0.mk (Below.refl w.heap.size w)
  have H : ((daytime_Check.f a0_0 a0_1 a0_2).bind fun t247 => (if t247.isNone = true then (some (wrap64 ((wrap64 ((wrap64 (a0_0 * 3600)) + (wrap64 (a0_1 * 60)))) + a0_2), none)) else (some (0, some (t247.getD 0))))) = some (r1, r2) := h
  clear h
  replace H := Option.bind_eq_some_iff.mp H
  obtain ⟨t247, A20, H⟩ := H
  replace H : (if t247.isNone = true then (some (wrap64 ((wrap64 ((wrap64 (a0_0 * 3600)) + (wrap64 (a0_1 * 60)))) + a0_2), none)) else (some (0, some (t247.getD 0)))) = some (r1, r2) := H
  have A2 := Aside0.mk A20
  clear A20
  rcases t247 with _ | q248
  · have H1 : (some (wrap64 ((wrap64 ((wrap64 (a0_0 * 3600)) + (wrap64 (a0_1 * 60)))) + a0_2), none)) = some (r1, r2) := by rw [if_pos (show (none : Option Int).isNone = true by rfl)] at H; exact H
    clear H
    have H := H1
    clear H1
    try simp only [errW_none, errW_some]
    simp only [Option.some.injEq, Prod.mk.injEq] at H
    obtain ⟨rfl, rfl⟩ := H
    go_enter Tryz.func32, Tryz.ntmps32
    go_wp2_with (first | ((with_reducible refine gate_dst (N := 1) rfl ?_); refine box_event ?hg (N := 1) ?hd (cs := #[.int .i64 a0_0, .int .i64 a0_1, .int .i64 a0_2]) (t := 50) ?hr ?_; (case hd => rfl); (case hg => rfl); (case hr => first | (go_simp; done) | (go_simp; rfl)); intro gb246 hg w3 hbox hb; have n0_ := Aside0.mk (below_step (by repeat (first | (with_reducible first | exact HB.out | apply below_alloc | apply pw_below_drewN | apply below_drew1) | exact HB.out)) hb); have n1_ := Aside0.mk (hbox); have n2_ := Aside0.mk ((by rw [hg]; exact (below_size (by repeat (first | (with_reducible first | exact HB.out | apply below_alloc | apply pw_below_drewN | apply below_drew1) | exact HB.out))) : w.heap.size ≤ gb246)); have n3_ := Aside0.mk ((by rw [hg]; exact (below_size (by repeat (first | (with_reducible first | exact HB.out | apply below_alloc | apply pw_below_drewN | apply below_drew1) | exact HB.out))) : w.heap.size ≤ gb246)); clear HB; have HB := n0_; have BK246 := n1_; have GW246 := n2_; have GE246 := n3_; clear n0_ n1_ n2_ n3_; clear hb hbox hg; have hcz4_0 : w3.cell? ⟨gb246, 0, none⟩ = some (.int .i64 a0_0) := (blk_cell BK246.out 0).trans rfl; have hcz4_1 : w3.cell? ⟨gb246, 1, none⟩ = some (.int .i64 a0_1) := (blk_cell BK246.out 1).trans rfl; have hcz4_2 : w3.cell? ⟨gb246, 2, none⟩ = some (.int .i64 a0_2) := (blk_cell BK246.out 2).trans rfl; have hfz4_0 := blk_frozen BK246.out 0; have hfz4_1 := blk_frozen BK246.out 1; have hfz4_2 := blk_frozen BK246.out 2) | ((with_reducible refine gate_callee (f := 35) rfl ?_); refine goesL_ (some 6) rfl rfl Tryz.func35 (by kernel_rfl) rfl #[.agg #[.int .i64 a0_0, .int .i64 a0_1, .int .i64 a0_2]] rfl (by (try simp only [List.map_toArray, List.map_cons, List.map_nil]); first | done | rfl | (simp only [List.length_drop, List.length_take]; rfl)) ?_; (with_reducible refine (daytime_Check.calls a0_0 a0_1 a0_2 none _ A2.out).mono ?_); rintro e w5 ⟨rfl, hb⟩; refine ⟨_, rfl, ?_⟩; have n0_ := Aside0.mk (blk_below (g := gb246) (o := .cells #[.int .i64 a0_0, .int .i64 a0_1, .int .i64 a0_2] 50 (0, 0)) (by (with_reducible repeat (first | refine blk_drewN ?_ _ | refine blk_drew ?_ | refine blk_alloc ?_ _)); exact BK246.out) hb); have n1_ := Aside0.mk (below_step (by repeat (first | (with_reducible first | exact HB.out | apply below_alloc | apply pw_below_drewN | apply below_drew1 | refine below_set ?_ GE246.out) | exact HB.out)) hb); clear BK246; clear HB; have BK246 := n0_; have HB := n1_; clear n0_ n1_; (try clear hb); (try clear hb2); (try clear hk); (try clear hi); (try simp only [errW_none, errW_some]); have hcz6_0 : w5.cell? ⟨gb246, 0, none⟩ = some (.int .i64 a0_0) := (blk_cell BK246.out 0).trans rfl; have hcz6_1 : w5.cell? ⟨gb246, 1, none⟩ = some (.int .i64 a0_1) := (blk_cell BK246.out 1).trans rfl; have hcz6_2 : w5.cell? ⟨gb246, 2, none⟩ = some (.int .i64 a0_2) := (blk_cell BK246.out 2).trans rfl; have hfz6_0 := blk_frozen BK246.out 0; have hfz6_1 := blk_frozen BK246.out 1; have hfz6_2 := blk_frozen BK246.out 2))
    go_ret2
    exact ⟨by first | rfl | (simp [errW_none, errW_some] <;> rfl) | (simp [*, errW_none, errW_some] <;> rfl), by repeat (first | (with_reducible first | exact HB.out | apply below_alloc | apply pw_below_drewN | apply below_drew1 | refine below_set ?_ GE246.out) | exact HB.out)⟩
  · have H1 : (some (0, some q248)) = some (r1, r2) := by rw [if_neg (show ¬ (some q248).isNone = true by simp)] at H; exact H
    clear H
    have H := H1
    clear H1
    try simp only [errW_none, errW_some]
    simp only [Option.some.injEq, Prod.mk.injEq] at H
    obtain ⟨rfl, rfl⟩ := H
    go_enter Tryz.func32, Tryz.ntmps32
    go_wp2_with (first | ((with_reducible refine gate_dst (N := 1) rfl ?_); refine box_event ?hg (N := 1) ?hd (cs := #[.int .i64 a0_0, .int .i64 a0_1, .int .i64 a0_2]) (t := 50) ?hr ?_; (case hd => rfl); (case hg => rfl); (case hr => first | (go_simp; done) | (go_simp; rfl)); intro gb246 hg w7 hbox hb; have n0_ := Aside0.mk (below_step (by repeat (first | (with_reducible first | exact HB.out | apply below_alloc | apply pw_below_drewN | apply below_drew1) | exact HB.out)) hb); have n1_ := Aside0.mk (hbox); have n2_ := Aside0.mk ((by rw [hg]; exact (below_size (by repeat (first | (with_reducible first | exact HB.out | apply below_alloc | apply pw_below_drewN | apply below_drew1) | exact HB.out))) : w.heap.size ≤ gb246)); have n3_ := Aside0.mk ((by rw [hg]; exact (below_size (by repeat (first | (with_reducible first | exact HB.out | apply below_alloc | apply pw_below_drewN | apply below_drew1) | exact HB.out))) : w.heap.size ≤ gb246)); clear HB; have HB := n0_; have BK246 := n1_; have GW246 := n2_; have GE246 := n3_; clear n0_ n1_ n2_ n3_; clear hb hbox hg; have hcz8_0 : w7.cell? ⟨gb246, 0, none⟩ = some (.int .i64 a0_0) := (blk_cell BK246.out 0).trans rfl; have hcz8_1 : w7.cell? ⟨gb246, 1, none⟩ = some (.int .i64 a0_1) := (blk_cell BK246.out 1).trans rfl; have hcz8_2 : w7.cell? ⟨gb246, 2, none⟩ = some (.int .i64 a0_2) := (blk_cell BK246.out 2).trans rfl; have hfz8_0 := blk_frozen BK246.out 0; have hfz8_1 := blk_frozen BK246.out 1; have hfz8_2 := blk_frozen BK246.out 2) | ((with_reducible refine gate_callee (f := 35) rfl ?_); refine goesL_ (some 6) rfl rfl Tryz.func35 (by kernel_rfl) rfl #[.agg #[.int .i64 a0_0, .int .i64 a0_1, .int .i64 a0_2]] rfl (by (try simp only [List.map_toArray, List.map_cons, List.map_nil]); first | done | rfl | (simp only [List.length_drop, List.length_take]; rfl)) ?_; (with_reducible refine (daytime_Check.calls a0_0 a0_1 a0_2 (some q248) _ A2.out).mono ?_); rintro e w9 ⟨rfl, hb⟩; refine ⟨_, rfl, ?_⟩; have n0_ := Aside0.mk (blk_below (g := gb246) (o := .cells #[.int .i64 a0_0, .int .i64 a0_1, .int .i64 a0_2] 50 (0, 0)) (by (with_reducible repeat (first | refine blk_drewN ?_ _ | refine blk_drew ?_ | refine blk_alloc ?_ _)); exact BK246.out) hb); have n1_ := Aside0.mk (below_step (by repeat (first | (with_reducible first | exact HB.out | apply below_alloc | apply pw_below_drewN | apply below_drew1 | refine below_set ?_ GE246.out) | exact HB.out)) hb); clear BK246; clear HB; have BK246 := n0_; have HB := n1_; clear n0_ n1_; (try clear hb); (try clear hb2); (try clear hk); (try clear hi); (try simp only [errW_none, errW_some])))
    go_ret2
    exact ⟨by first | rfl | (simp [errW_none, errW_some] <;> rfl) | (simp [*, errW_none, errW_some] <;> rfl), by repeat (first | (with_reducible first | exact HB.out | apply below_alloc | apply pw_below_drewN | apply below_drew1 | refine below_set ?_ GE246.out) | exact HB.out)⟩

end Go.Proofs.YtfjifhkgifefeaaGreatDoor.PA
end

section
namespace Go.Proofs.YtfjifhkgifefeaaGreatDoor.PA
open Go.Proofs.YtfjifhkgifefeaaGreatDoor.Giv Go.RowKit Go.Proofs.YtfjifhkgifefeaaGreatDoorW.PrintWords Go.Proofs.YtfjifhkgifefeaaGreatDoorW.PrintLast Go.Proofs.YtfjifhkgifefeaaGreatDoorW.PrintMore
attribute [local go_sem] max2_int min2_int max_two min_two max_three min_three max_four min_four   -- for this text's walks alone
set_option linter.unusedVariables false
set_option linter.unusedSimpArgs false

/-! ### daytime_Of: function 33 -/
def daytime_Of.j0 : Nat → Int → Bool → Option (Int × Int × Int × Option Int)
  | 0, _, _ => none
  | k + 1, x0, x4 => if x4 = true then (some (0, 0, 0, some 1)) else (if x0 = 86400 then (some (23, 59, 60, none)) else (some (wrap64 (Int.tdiv x0 3600), Int.tmod (wrap64 (Int.tdiv x0 60)) 60, Int.tmod x0 60, none)))
def daytime_Of.f (k : Nat) (a0 : Int) : Option (Int × Int × Int × Option Int) := if a0 < 0 then (daytime_Of.j0 k a0 true) else (daytime_Of.j0 k a0 (decide (a0 > 86400)))
set_option maxHeartbeats 8000000 in
set_option maxRecDepth 100000 in
theorem daytime_Of.calls (k : Nat) (a0 : Int) (r1 : Int) (r2 : Int) (r3 : Int) (r4 : Option Int) (w : World) (h : daytime_Of.f k a0 = some (r1, r2, r3, r4)) :
    Calls Tryz.prog 33 #[.int .i64 a0] w fun e w' => e = .returned (.tuple #[.agg #[.int .i64 r1, .int .i64 r2, .int .i64 r3], errW r4]) ∧ Below w.heap.size w w' := by
  have hu50 := Tryz.underlying50
  have hu28 := Tryz.underlying28
  have hu157 := Tryz.underlying157
  have HB := Aside0.mk (Below.refl w.heap.size w)
  have H : (if a0 < 0 then (daytime_Of.j0 k a0 true) else (daytime_Of.j0 k a0 (decide (a0 > 86400)))) = some (r1, r2, r3, r4) := h
  clear h
  have HC2 := Aside0.mk H
  clear H
  go_enter Tryz.func33, Tryz.ntmps33
  go_upto_region 1 with (first | ((with_reducible refine gate_dst (N := 2) rfl ?_); refine box_event ?hg (N := 2) ?hd (cs := #[.int .i64 0, .int .i64 0, .int .i64 0]) (t := 50) ?hr ?_; (case hd => rfl); (case hg => rfl); (case hr => first | (go_simp; done) | (go_simp; rfl)); intro gb249 hg w3 hbox hb; have n0_ := Aside0.mk (below_step (by repeat (first | (with_reducible first | exact HB.out | apply below_alloc | apply pw_below_drewN | apply below_drew1) | exact HB.out)) hb); have n1_ := Aside0.mk (hbox); have n2_ := Aside0.mk ((by rw [hg]; exact (below_size (by repeat (first | (with_reducible first | exact HB.out | apply below_alloc | apply pw_below_drewN | apply below_drew1) | exact HB.out))) : w.heap.size ≤ gb249)); have n3_ := Aside0.mk ((by rw [hg]; exact (below_size (by repeat (first | (with_reducible first | exact HB.out | apply below_alloc | apply pw_below_drewN | apply below_drew1) | exact HB.out))) : w.heap.size ≤ gb249)); clear HB; have HB := n0_; have BK249 := n1_; have GW249 := n2_; have GE249 := n3_; clear n0_ n1_ n2_ n3_; clear hb hbox hg))
  (try simp only [Act.put, List.setIfInBounds_toArray, List.set_cons_zero, List.set_cons_succ])
  go_cut [4] (fun v4 wc => ∃ (kq : Nat) (x4_1 : Bool), v4 = .bool x4_1 ∧ Aside0 (daytime_Of.j0 kq a0 x4_1 = some (r1, r2, r3, r4)) ∧ Aside0 (kq ≤ k) ∧ Aside0 (wc.heap[gb249]? = some (.cells #[.int .i64 0, .int .i64 0, .int .i64 0] 50 (0, 0))) ∧ Aside0 (Below w.heap.size w wc))
  case first =>
    have H := HC2.out
    clear HC2
    by_cases c4 : a0 < 0
    · rw [if_pos c4] at H
      have c4b0 : decide (a0 < 0) = true := decide_eq_true c4
      clear c4
      (first | rw [c4b0] | (simp only [i64_w, i32_w]; rw [c4b0]) | skip)
      have H' := Aside0.mk H
      clear H
      go_wp2
      go_meet
      case rel => exact ⟨_, (true), (by first | rfl | (simp; done) | (simp [*]; done)), H', ⟨by first | omega | exact Nat.le_refl _⟩, ⟨by (with_reducible repeat (first | refine blk_drewN ?_ _ | refine blk_drew ?_ | refine blk_alloc ?_ _)); exact BK249.out⟩, ⟨by repeat (first | (with_reducible first | exact HB.out | apply below_alloc | apply pw_below_drewN | apply below_drew1 | refine below_set ?_ GE249.out) | exact HB.out)⟩⟩
    · rw [if_neg c4] at H
      have c4b0 : decide (a0 < 0) = false := decide_eq_false c4
      clear c4
      (first | rw [c4b0] | (simp only [i64_w, i32_w]; rw [c4b0]) | skip)
      have H' := Aside0.mk H
      clear H
      go_wp2
      go_meet
      case rel => exact ⟨_, (decide (a0 > 86400)), (by first | rfl | (simp; done) | (simp [*]; done)), H', ⟨by first | omega | exact Nat.le_refl _⟩, ⟨by (with_reducible repeat (first | refine blk_drewN ?_ _ | refine blk_drew ?_ | refine blk_alloc ?_ _)); exact BK249.out⟩, ⟨by repeat (first | (with_reducible first | exact HB.out | apply below_alloc | apply pw_below_drewN | apply below_drew1 | refine below_set ?_ GE249.out) | exact HB.out)⟩⟩
  case rest =>
    clear HC2
    try clear p2
    try clear c3
    try clear c4
    try clear c4b0
    obtain ⟨kq, x4_1, rfl, HA, HJ1, BK249, HB⟩ := hcut
    cases kq with
    | zero => exact absurd HA.out (by simp [daytime_Of.j0])
    | succ kj1 =>
      have H := HA.out
      clear HA
      simp only [daytime_Of.j0] at H
      by_cases c5 : x4_1 = true
      · subst c5
        have H1 : (some (0, 0, 0, some 1)) = some (r1, r2, r3, r4) := by rw [if_pos rfl] at H; exact H
        clear H
        have H := H1
        clear H1
        simp only [Option.some.injEq, Prod.mk.injEq] at H
        obtain ⟨rfl, rfl, rfl, rfl⟩ := H
        have hcz6_0 : wc.cell? ⟨gb249, 0, none⟩ = some (.int .i64 0) := (blk_cell BK249.out 0).trans rfl
        have hcz6_1 : wc.cell? ⟨gb249, 1, none⟩ = some (.int .i64 0) := (blk_cell BK249.out 1).trans rfl
        have hcz6_2 : wc.cell? ⟨gb249, 2, none⟩ = some (.int .i64 0) := (blk_cell BK249.out 2).trans rfl
        have hfz6_0 := blk_frozen BK249.out 0
        have hfz6_1 := blk_frozen BK249.out 1
        have hfz6_2 := blk_frozen BK249.out 2
        go_wp2
        refine bodyPost_ret (results_ct rfl _ _ gb249 50 #[.int .i64 0, .int .i64 0, .int .i64 0] (0, 0) _ rfl (by (with_reducible repeat (first | refine blk_drewN ?_ _ | refine blk_drew ?_ | refine blk_alloc ?_ _)); refine blk_put (cs := #[.int .i64 0, .int .i64 0, .int .i64 0]) ?_ 2 _ rfl; (with_reducible repeat (first | refine blk_drewN ?_ _ | refine blk_drew ?_ | refine blk_alloc ?_ _)); refine blk_put (cs := #[.int .i64 0, .int .i64 0, .int .i64 0]) ?_ 1 _ rfl; (with_reducible repeat (first | refine blk_drewN ?_ _ | refine blk_drew ?_ | refine blk_alloc ?_ _)); refine blk_put (cs := #[.int .i64 0, .int .i64 0, .int .i64 0]) ?_ 0 _ rfl; (with_reducible repeat (first | refine blk_drewN ?_ _ | refine blk_drew ?_ | refine blk_alloc ?_ _)); exact BK249.out) Tryz.underlying50 rfl (by kernel_rfl)) rfl ?_
        exact ⟨by first | rfl | (simp [errW_none, errW_some] <;> rfl) | (simp [*, errW_none, errW_some] <;> rfl), by repeat (first | (with_reducible first | exact HB.out | apply below_alloc | apply pw_below_drewN | apply below_drew1 | refine below_set ?_ GE249.out) | exact HB.out)⟩
      · replace c5 := Bool.eq_false_iff.mpr c5
        subst c5
        have H1 : (if a0 = 86400 then (some (23, 59, 60, none)) else (some (wrap64 (Int.tdiv a0 3600), Int.tmod (wrap64 (Int.tdiv a0 60)) 60, Int.tmod a0 60, none))) = some (r1, r2, r3, r4) := by rw [if_neg (show ¬ (false = true) by decide)] at H; exact H
        clear H
        have H := H1
        clear H1
        by_cases c7 : a0 = 86400
        · rw [if_pos c7] at H
          have c7b0 : (a0 == 86400) = true := beq_iff_eq.mpr c7
          have c7b1 : (a0 != 86400) = false := bne_eq_false_iff_eq.mpr c7
          clear c7
          simp only [Option.some.injEq, Prod.mk.injEq] at H
          obtain ⟨rfl, rfl, rfl, rfl⟩ := H
          have hcz8_0 : wc.cell? ⟨gb249, 0, none⟩ = some (.int .i64 0) := (blk_cell BK249.out 0).trans rfl
          have hcz8_1 : wc.cell? ⟨gb249, 1, none⟩ = some (.int .i64 0) := (blk_cell BK249.out 1).trans rfl
          have hcz8_2 : wc.cell? ⟨gb249, 2, none⟩ = some (.int .i64 0) := (blk_cell BK249.out 2).trans rfl
          have hfz8_0 := blk_frozen BK249.out 0
          have hfz8_1 := blk_frozen BK249.out 1
          have hfz8_2 := blk_frozen BK249.out 2
          go_wp2
          refine bodyPost_ret (results_ct rfl _ _ gb249 50 #[.int .i64 23, .int .i64 59, .int .i64 60] (0, 0) _ rfl (by (with_reducible repeat (first | refine blk_drewN ?_ _ | refine blk_drew ?_ | refine blk_alloc ?_ _)); refine blk_put (cs := #[.int .i64 23, .int .i64 59, .int .i64 0]) ?_ 2 _ rfl; (with_reducible repeat (first | refine blk_drewN ?_ _ | refine blk_drew ?_ | refine blk_alloc ?_ _)); refine blk_put (cs := #[.int .i64 23, .int .i64 0, .int .i64 0]) ?_ 1 _ rfl; (with_reducible repeat (first | refine blk_drewN ?_ _ | refine blk_drew ?_ | refine blk_alloc ?_ _)); refine blk_put (cs := #[.int .i64 0, .int .i64 0, .int .i64 0]) ?_ 0 _ rfl; (with_reducible repeat (first | refine blk_drewN ?_ _ | refine blk_drew ?_ | refine blk_alloc ?_ _)); exact BK249.out) Tryz.underlying50 rfl (by kernel_rfl)) rfl ?_
          exact ⟨by first | rfl | (simp [errW_none, errW_some] <;> rfl) | (simp [*, errW_none, errW_some] <;> rfl), by repeat (first | (with_reducible first | exact HB.out | apply below_alloc | apply pw_below_drewN | apply below_drew1 | refine below_set ?_ GE249.out) | exact HB.out)⟩
        · rw [if_neg c7] at H
          have c7b0 : (a0 == 86400) = false := beq_eq_false_iff_ne.mpr c7
          have c7b1 : (a0 != 86400) = true := bne_iff_ne.mpr c7
          simp only [Option.some.injEq, Prod.mk.injEq] at H
          obtain ⟨rfl, rfl, rfl, rfl⟩ := H
          have hcz9_0 : wc.cell? ⟨gb249, 0, none⟩ = some (.int .i64 0) := (blk_cell BK249.out 0).trans rfl
          have hcz9_1 : wc.cell? ⟨gb249, 1, none⟩ = some (.int .i64 0) := (blk_cell BK249.out 1).trans rfl
          have hcz9_2 : wc.cell? ⟨gb249, 2, none⟩ = some (.int .i64 0) := (blk_cell BK249.out 2).trans rfl
          have hfz9_0 := blk_frozen BK249.out 0
          have hfz9_1 := blk_frozen BK249.out 1
          have hfz9_2 := blk_frozen BK249.out 2
          go_wp2
          refine bodyPost_ret (results_ct rfl _ _ gb249 50 #[.int .i64 (wrap64 (Int.tdiv a0 3600)), .int .i64 (Int.tmod (wrap64 (Int.tdiv a0 60)) 60), .int .i64 (Int.tmod a0 60)] (0, 0) _ rfl (by (with_reducible repeat (first | refine blk_drewN ?_ _ | refine blk_drew ?_ | refine blk_alloc ?_ _)); refine blk_put (cs := #[.int .i64 (wrap64 (Int.tdiv a0 3600)), .int .i64 (Int.tmod (wrap64 (Int.tdiv a0 60)) 60), .int .i64 0]) ?_ 2 _ rfl; (with_reducible repeat (first | refine blk_drewN ?_ _ | refine blk_drew ?_ | refine blk_alloc ?_ _)); refine blk_put (cs := #[.int .i64 (wrap64 (Int.tdiv a0 3600)), .int .i64 0, .int .i64 0]) ?_ 1 _ rfl; (with_reducible repeat (first | refine blk_drewN ?_ _ | refine blk_drew ?_ | refine blk_alloc ?_ _)); refine blk_put (cs := #[.int .i64 0, .int .i64 0, .int .i64 0]) ?_ 0 _ rfl; (with_reducible repeat (first | refine blk_drewN ?_ _ | refine blk_drew ?_ | refine blk_alloc ?_ _)); exact BK249.out) Tryz.underlying50 rfl (by kernel_rfl)) rfl ?_
          exact ⟨by first | rfl | (simp [errW_none, errW_some] <;> rfl) | (simp [*, errW_none, errW_some] <;> rfl), by repeat (first | (with_reducible first | exact HB.out | apply below_alloc | apply pw_below_drewN | apply below_drew1 | refine below_set ?_ GE249.out) | exact HB.out)⟩

end Go.Proofs.YtfjifhkgifefeaaGreatDoor.PA
end

section
namespace Go.Proofs.YtfjifhkgifefeaaGreatDoor.PA
open Go.Proofs.YtfjifhkgifefeaaGreatDoor.Giv Go.RowKit Go.Proofs.YtfjifhkgifefeaaGreatDoorW.PrintWords Go.Proofs.YtfjifhkgifefeaaGreatDoorW.PrintLast Go.Proofs.YtfjifhkgifefeaaGreatDoorW.PrintMore
attribute [local go_sem] max2_int min2_int max_two min_two max_three min_three max_four min_four   -- for this text's walks alone
set_option linter.unusedVariables false
set_option linter.unusedSimpArgs false

/-! ### daytime_digits: function 100 -/
def daytime_digits.f (a0 : Int) (a1 : Int) : Option (ByteArray) := (strconv_FormatInt.f a0 10).bind fun t251 => ((strings_Repeat.f (⟨#[48]⟩ : ByteArray) (mx 0 (wrap64 (a1 - (t251.size : Int))))).bind fun t252 => (if t252.size + t251.size ≤ 9223372036854775807 then (some (t252 ++ t251)) else (none)))
set_option maxHeartbeats 8000000 in
set_option maxRecDepth 100000 in
theorem daytime_digits.calls (a0 : Int) (a1 : Int) (r : ByteArray) (w : World) (hl_ : Laid w) (h : daytime_digits.f a0 a1 = some r) :
    Calls Tryz.prog 100 #[.int .i64 a0, .int .i64 a1] w fun e w' => e = .returned (.string r) ∧ Below w.heap.size w w' := by
  have HL := Aside0.mk hl_
  clear hl_
  have HB := Aside0.mk (Below.refl w.heap.size w)
  have H : ((strconv_FormatInt.f a0 10).bind fun t251 => ((strings_Repeat.f (⟨#[48]⟩ : ByteArray) (mx 0 (wrap64 (a1 - (t251.size : Int))))).bind fun t252 => (if t252.size + t251.size ≤ 9223372036854775807 then (some (t252 ++ t251)) else (none)))) = some r := h
  clear h
  replace H := Option.bind_eq_some_iff.mp H
  obtain ⟨t251, A30, H⟩ := H
  replace H : ((strings_Repeat.f (⟨#[48]⟩ : ByteArray) (mx 0 (wrap64 (a1 - (t251.size : Int))))).bind fun t252 => (if t252.size + t251.size ≤ 9223372036854775807 then (some (t252 ++ t251)) else (none))) = some r := H
  have A3 := Aside0.mk A30
  clear A30
  obtain ⟨ji4, hji4⟩ : ∃ j_ : Int, (mx 0 (wrap64 (a1 - (t251.size : Int)))) = j_ := ⟨_, rfl⟩
  replace H : ((strings_Repeat.f (⟨#[48]⟩ : ByteArray) (ji4)).bind fun t252 => (if t252.size + t251.size ≤ 9223372036854775807 then (some (t252 ++ t251)) else (none))) = some r := by first | (rw [hji4] at H; exact H) | (simp only [hji4] at H ⊢; exact H)
  (try rw [hji4] at A3)
  (try (have hji4l : 0 ≤ ji4 := by (rw [← hji4]; unfold mx; (repeat' split) <;> omega)))
  (try (have hji4m : 0 ≤ ji4 := by omega))
  have hji4_ : (if 0 < (wrap64 (a1 - (t251.size : Int))) then (wrap64 (a1 - (t251.size : Int))) else 0) = ji4 := hji4
  replace H := Option.bind_eq_some_iff.mp H
  obtain ⟨t252, A50, H⟩ := H
  replace H : (if t252.size + t251.size ≤ 9223372036854775807 then (some (t252 ++ t251)) else (none)) = some r := H
  have A5 := Aside0.mk A50
  clear A50
  by_cases c6 : t252.size + t251.size ≤ 9223372036854775807
  · rw [if_pos c6] at H
    have c6b0 := eq_true c6
    have c6b1 : decide (t252.size + t251.size ≤ 9223372036854775807) = true := decide_eq_true c6
    try have c6b2 : (9223372036854775807 < t252.size + t251.size) = False := eq_false (Nat.not_lt.2 c6)
    obtain rfl := Option.some.inj H
    go_enter Tryz.func100, Tryz.ntmps100
    go_wp2_with (first | ((with_reducible refine gate_callee (f := 114) rfl ?_); refine goesL_ (some 7) rfl rfl Tryz.func114 (by kernel_rfl) rfl #[.int .i64 a0, .int .i64 10] rfl (by (try simp only [List.map_toArray, List.map_cons, List.map_nil]); first | done | rfl | (simp only [List.length_drop, List.length_take]; rfl)) ?_; (with_reducible refine (strconv_FormatInt.calls a0 10 t251 _ (by first | exact Laid.below HL.out (by repeat (first | (with_reducible first | exact HB.out | apply below_alloc | apply pw_below_drewN | apply below_drew1 | refine below_set ?_ (Aside0.out (by assumption))) | exact HB.out))) A3.out).mono ?_); rintro e w7 ⟨rfl, hb⟩; refine ⟨_, rfl, ?_⟩; have n0_ := Aside0.mk (below_step (by repeat (first | (with_reducible first | exact HB.out | apply below_alloc | apply pw_below_drewN | apply below_drew1) | exact HB.out)) hb); clear HB; have HB := n0_; clear n0_; (try clear hb); (try clear hb2); (try clear hk); (try clear hi)) | ((with_reducible refine gate_callee (f := 155) rfl ?_); refine goesL_ (some 13) rfl rfl Tryz.func155 (by kernel_rfl) rfl #[.string (⟨#[48]⟩ : ByteArray), .int .i64 ji4] rfl (by (try simp only [List.map_toArray, List.map_cons, List.map_nil]); first | done | (simp only [hji4]; rfl) | rfl | (simp only [List.length_drop, List.length_take]; rfl)) ?_; (with_reducible refine (strings_Repeat.calls (⟨#[48]⟩ : ByteArray) ji4 t252 _ A5.out).mono ?_); rintro e w8 ⟨rfl, hb⟩; refine ⟨_, rfl, ?_⟩; have n0_ := Aside0.mk (below_step (by repeat (first | (with_reducible first | exact HB.out | apply below_alloc | apply pw_below_drewN | apply below_drew1) | exact HB.out)) hb); clear HB; have HB := n0_; clear n0_; (try clear hb); (try clear hb2); (try clear hk); (try clear hi)))
    go_ret
    exact ⟨by first | rfl | (simp [errW_none, errW_some] <;> rfl) | (simp only [← hji4]; first | rfl | (simp [errW_none, errW_some] <;> rfl)) | (simp [*, errW_none, errW_some] <;> rfl), by repeat (first | (with_reducible first | exact HB.out | apply below_alloc | apply pw_below_drewN | apply below_drew1) | exact HB.out)⟩
  · rw [if_neg c6] at H
    exact absurd H (by simp)

end Go.Proofs.YtfjifhkgifefeaaGreatDoor.PA
end

section
namespace Go.Proofs.YtfjifhkgifefeaaGreatDoor.PA
open Go.Proofs.YtfjifhkgifefeaaGreatDoor.Giv Go.RowKit Go.Proofs.YtfjifhkgifefeaaGreatDoorW.PrintWords Go.Proofs.YtfjifhkgifefeaaGreatDoorW.PrintLast Go.Proofs.YtfjifhkgifefeaaGreatDoorW.PrintMore
attribute [local go_sem] max2_int min2_int max_two min_two max_three min_three max_four min_four   -- for this text's walks alone
set_option linter.unusedVariables false
set_option linter.unusedSimpArgs false

/-! ### daytime_Stamp: function 39 -/
def daytime_Stamp.j0 : Nat → Int → Int → Bool → Int → Int → Int → Option (ByteArray × Option Int)
  | 0, _, _, _, _, _, _ => none
  | k + 1, x0, x2, x26, x258000, x258001, x258002 => if x26 = true then (some ((⟨#[]⟩ : ByteArray), some 1)) else ((civil_Of.f k x0).bind fun bt259 => (if bt259.2.2.2.isNone = true then ((civil_Text.f k bt259.1 bt259.2.1 bt259.2.2.1).bind fun bt265 => (if bt265.2.isNone = true then (if bt265.1.size + 1 ≤ 9223372036854775807 then ((daytime_digits.f x258000 2).bind fun t268 => (if (bt265.1 ++ (⟨#[84]⟩ : ByteArray)).size + t268.size ≤ 9223372036854775807 then (if ((bt265.1 ++ (⟨#[84]⟩ : ByteArray)) ++ t268).size + 1 ≤ 9223372036854775807 then ((daytime_digits.f x258001 2).bind fun t269 => (if (((bt265.1 ++ (⟨#[84]⟩ : ByteArray)) ++ t268) ++ (⟨#[58]⟩ : ByteArray)).size + t269.size ≤ 9223372036854775807 then (if ((((bt265.1 ++ (⟨#[84]⟩ : ByteArray)) ++ t268) ++ (⟨#[58]⟩ : ByteArray)) ++ t269).size + 1 ≤ 9223372036854775807 then ((daytime_digits.f x258002 2).bind fun t270 => (if (((((bt265.1 ++ (⟨#[84]⟩ : ByteArray)) ++ t268) ++ (⟨#[58]⟩ : ByteArray)) ++ t269) ++ (⟨#[58]⟩ : ByteArray)).size + t270.size ≤ 9223372036854775807 then (if ((((((bt265.1 ++ (⟨#[84]⟩ : ByteArray)) ++ t268) ++ (⟨#[58]⟩ : ByteArray)) ++ t269) ++ (⟨#[58]⟩ : ByteArray)) ++ t270).size + 1 ≤ 9223372036854775807 then ((daytime_digits.f x2 9).bind fun t271 => (if (((((((bt265.1 ++ (⟨#[84]⟩ : ByteArray)) ++ t268) ++ (⟨#[58]⟩ : ByteArray)) ++ t269) ++ (⟨#[58]⟩ : ByteArray)) ++ t270) ++ (⟨#[46]⟩ : ByteArray)).size + t271.size ≤ 9223372036854775807 then (some ((((((((bt265.1 ++ (⟨#[84]⟩ : ByteArray)) ++ t268) ++ (⟨#[58]⟩ : ByteArray)) ++ t269) ++ (⟨#[58]⟩ : ByteArray)) ++ t270) ++ (⟨#[46]⟩ : ByteArray)) ++ t271, none)) else (none))) else (none)) else (none))) else (none)) else (none))) else (none)) else (none))) else (none)) else (some ((⟨#[]⟩ : ByteArray), some (bt265.2.getD 0))))) else (some ((⟨#[]⟩ : ByteArray), some (bt259.2.2.2.getD 0)))))
def daytime_Stamp.f (k : Nat) (a0 : Int) (a1 : Int) (a2 : Int) : Option (ByteArray × Option Int) := (daytime_Of.f k a1).bind fun bt253 => (if bt253.2.2.2.isNone = true then (if a2 < 0 then (daytime_Stamp.j0 k a0 a2 true bt253.1 bt253.2.1 bt253.2.2.1) else (daytime_Stamp.j0 k a0 a2 (decide (a2 ≥ 1000000000)) bt253.1 bt253.2.1 bt253.2.2.1)) else (daytime_Stamp.j0 k a0 a2 true bt253.1 bt253.2.1 bt253.2.2.1))
def daytime_Stamp.T10 : Bool × List (List Nat × List Nat) := (true, [([], []), ([0], [0]), ([], []), ([2], [2]), ([3], [3]), ([1, 4], [1, 4]), ([5], [5]), ([], []), ([7], [7]), ([8, 4], [8]), ([6, 9], [6, 9]), ([10], [10]), ([], []), ([12], [12]), ([13, 9], [13]), ([11, 14], [11, 14]), ([15], [15]), ([], []), ([17, 14], [17]), ([16, 18], [16, 18]), ([19, 18, 0, 1, 2, 3, 4, 5, 6, 7, 8, 9, 10, 11, 12, 13, 14, 15, 16, 17, 18, 19], [19]), ([20, 0, 1, 2, 3, 4, 5, 6, 7, 8, 9, 10, 11, 12, 13, 14, 15, 16, 17, 18, 19, 20], [])])
def daytime_Stamp.B10 : List Nat := [0, 1, 0, 4, 12, 31, 63, 0, 128, 412, 1023, 2047, 0, 4096, 13212, 32767, 65535, 0, 160668, 524287, 1048575, 2097151]
theorem daytime_Stamp.tab10 : rtab .any (opsOf Tryz.f39 10) = daytime_Stamp.T10 := by kernel_rfl
theorem daytime_Stamp.bits10 : waitsOk daytime_Stamp.T10.2 daytime_Stamp.B10 = true := by kernel_rfl
set_option maxHeartbeats 8000000 in
set_option maxRecDepth 100000 in
theorem daytime_Stamp.calls (k : Nat) (a0 : Int) (a1 : Int) (a2 : Int) (r1 : ByteArray) (r2 : Option Int) (w : World) (hl_ : Laid w) (h : daytime_Stamp.f k a0 a1 a2 = some (r1, r2)) :
    Calls Tryz.prog 39 #[.int .i64 a0, .int .i64 a1, .int .i64 a2] w fun e w' => e = .returned (.tuple #[.string r1, errW r2]) ∧ Below w.heap.size w w' := by
  have hu50 := Tryz.underlying50
  have hu26 := Tryz.underlying26
  have hu28 := Tryz.underlying28
  have hu157 := Tryz.underlying157
  have HL := Aside0.mk hl_
  clear hl_
  have HB := Aside0.mk (Below.refl w.heap.size w)
  have H : ((daytime_Of.f k a1).bind fun bt253 => (if bt253.2.2.2.isNone = true then (if a2 < 0 then (daytime_Stamp.j0 k a0 a2 true bt253.1 bt253.2.1 bt253.2.2.1) else (daytime_Stamp.j0 k a0 a2 (decide (a2 ≥ 1000000000)) bt253.1 bt253.2.1 bt253.2.2.1)) else (daytime_Stamp.j0 k a0 a2 true bt253.1 bt253.2.1 bt253.2.2.1))) = some (r1, r2) := h
  clear h
  replace H := Option.bind_eq_some_iff.mp H
  obtain ⟨⟨t253, t254, t255, t256⟩, A40, H⟩ := H
  replace H : (if t256.isNone = true then (if a2 < 0 then (daytime_Stamp.j0 k a0 a2 true t253 t254 t255) else (daytime_Stamp.j0 k a0 a2 (decide (a2 ≥ 1000000000)) t253 t254 t255)) else (daytime_Stamp.j0 k a0 a2 true t253 t254 t255)) = some (r1, r2) := H
  have A4 := Aside0.mk A40
  clear A40
  have HC5 := Aside0.mk H
  clear H
  go_enter Tryz.func39, Tryz.ntmps39
  go_upto_region 2 with (first | ((with_reducible refine gate_callee (f := 33) rfl ?_); refine goesL_ (some 14) rfl rfl Tryz.func33 (by kernel_rfl) rfl #[.int .i64 a1] rfl (by (try simp only [List.map_toArray, List.map_cons, List.map_nil]); first | done | rfl | (simp only [List.length_drop, List.length_take]; rfl)) ?_; (with_reducible refine (daytime_Of.calls k a1 t253 t254 t255 t256 _ A4.out).mono ?_); rintro e w6 ⟨rfl, hb⟩; refine ⟨_, rfl, ?_⟩; have n0_ := Aside0.mk (below_step (by repeat (first | (with_reducible first | exact HB.out | apply below_alloc | apply pw_below_drewN | apply below_drew1) | exact HB.out)) hb); clear HB; have HB := n0_; clear n0_; (try clear hb); (try clear hb2); (try clear hk); (try clear hi); (try simp only [errW_none, errW_some])) | ((with_reducible refine gate_dst (N := 8) rfl ?_); refine box_event ?hg (N := 8) ?hd (cs := #[.int .i64 0, .int .i64 0, .int .i64 0]) (t := 50) ?hr ?_; (case hd => rfl); (case hg => rfl); (case hr => first | (go_simp; done) | (go_simp; rfl)); intro gb257 hg w7 hbox hb; have n0_ := Aside0.mk (below_step (by repeat (first | (with_reducible first | exact HB.out | apply below_alloc | apply pw_below_drewN | apply below_drew1) | exact HB.out)) hb); have n1_ := Aside0.mk (hbox); have n2_ := Aside0.mk ((by rw [hg]; exact (below_size (by repeat (first | (with_reducible first | exact HB.out | apply below_alloc | apply pw_below_drewN | apply below_drew1) | exact HB.out))) : w.heap.size ≤ gb257)); have n3_ := Aside0.mk ((by rw [hg]; exact (below_size (by repeat (first | (with_reducible first | exact HB.out | apply below_alloc | apply pw_below_drewN | apply below_drew1) | exact HB.out))) : w.heap.size ≤ gb257)); clear HB; have HB := n0_; have BK257 := n1_; have GW257 := n2_; have GE257 := n3_; clear n0_ n1_ n2_ n3_; clear hb hbox hg; have hcz8_0 : w7.cell? ⟨gb257, 0, none⟩ = some (.int .i64 0) := (blk_cell BK257.out 0).trans rfl; have hcz8_1 : w7.cell? ⟨gb257, 1, none⟩ = some (.int .i64 0) := (blk_cell BK257.out 1).trans rfl; have hcz8_2 : w7.cell? ⟨gb257, 2, none⟩ = some (.int .i64 0) := (blk_cell BK257.out 2).trans rfl; have hfz8_0 := blk_frozen BK257.out 0; have hfz8_1 := blk_frozen BK257.out 1; have hfz8_2 := blk_frozen BK257.out 2))
  (try simp only [Act.put, List.setIfInBounds_toArray, List.set_cons_zero, List.set_cons_succ])
  go_cut [26] (fun v26 wc => ∃ (kq : Nat) (x26_4 : Bool), v26 = .bool x26_4 ∧ Aside0 (daytime_Stamp.j0 kq a0 a2 x26_4 t253 t254 t255 = some (r1, r2)) ∧ Aside0 (kq ≤ k) ∧ Aside0 (wc.heap[gb257]? = some (.cells #[.int .i64 t253, .int .i64 t254, .int .i64 t255] 50 (0, 0))) ∧ Aside0 (Below w.heap.size w wc))
  case first =>
    have H := HC5.out
    clear HC5
    rcases t256 with _ | q258
    · have H1 : (if a2 < 0 then (daytime_Stamp.j0 k a0 a2 true t253 t254 t255) else (daytime_Stamp.j0 k a0 a2 (decide (a2 ≥ 1000000000)) t253 t254 t255)) = some (r1, r2) := by rw [if_pos (show (none : Option Int).isNone = true by rfl)] at H; exact H
      clear H
      have H := H1
      clear H1
      try simp only [errW_none, errW_some]
      by_cases c9 : a2 < 0
      · rw [if_pos c9] at H
        have c9b0 : decide (a2 < 0) = true := decide_eq_true c9
        clear c9
        (first | rw [c9b0] | (simp only [i64_w, i32_w]; rw [c9b0]) | skip)
        have H' := Aside0.mk H
        clear H
        go_wp2
        go_meet
        case rel => exact ⟨_, (true), (by first | rfl | (simp; done) | (simp [*]; done)), H', ⟨by first | omega | exact Nat.le_refl _⟩, ⟨by (with_reducible repeat (first | refine blk_drewN ?_ _ | refine blk_drew ?_ | refine blk_alloc ?_ _)); refine blk_put (cs := #[.int .i64 t253, .int .i64 t254, .int .i64 0]) ?_ 2 _ rfl; (with_reducible repeat (first | refine blk_drewN ?_ _ | refine blk_drew ?_ | refine blk_alloc ?_ _)); refine blk_put (cs := #[.int .i64 t253, .int .i64 0, .int .i64 0]) ?_ 1 _ rfl; (with_reducible repeat (first | refine blk_drewN ?_ _ | refine blk_drew ?_ | refine blk_alloc ?_ _)); refine blk_put (cs := #[.int .i64 0, .int .i64 0, .int .i64 0]) ?_ 0 _ rfl; (with_reducible repeat (first | refine blk_drewN ?_ _ | refine blk_drew ?_ | refine blk_alloc ?_ _)); exact BK257.out⟩, ⟨by repeat (first | (with_reducible first | exact HB.out | apply below_alloc | apply pw_below_drewN | apply below_drew1 | refine below_set ?_ GE257.out) | exact HB.out)⟩⟩
      · rw [if_neg c9] at H
        have c9b0 : decide (a2 < 0) = false := decide_eq_false c9
        clear c9
        (first | rw [c9b0] | (simp only [i64_w, i32_w]; rw [c9b0]) | skip)
        have H' := Aside0.mk H
        clear H
        go_wp2
        go_meet
        case rel => exact ⟨_, (decide (a2 ≥ 1000000000)), (by first | rfl | (simp; done) | (simp [*]; done)), H', ⟨by first | omega | exact Nat.le_refl _⟩, ⟨by (with_reducible repeat (first | refine blk_drewN ?_ _ | refine blk_drew ?_ | refine blk_alloc ?_ _)); refine blk_put (cs := #[.int .i64 t253, .int .i64 t254, .int .i64 0]) ?_ 2 _ rfl; (with_reducible repeat (first | refine blk_drewN ?_ _ | refine blk_drew ?_ | refine blk_alloc ?_ _)); refine blk_put (cs := #[.int .i64 t253, .int .i64 0, .int .i64 0]) ?_ 1 _ rfl; (with_reducible repeat (first | refine blk_drewN ?_ _ | refine blk_drew ?_ | refine blk_alloc ?_ _)); refine blk_put (cs := #[.int .i64 0, .int .i64 0, .int .i64 0]) ?_ 0 _ rfl; (with_reducible repeat (first | refine blk_drewN ?_ _ | refine blk_drew ?_ | refine blk_alloc ?_ _)); exact BK257.out⟩, ⟨by repeat (first | (with_reducible first | exact HB.out | apply below_alloc | apply pw_below_drewN | apply below_drew1 | refine below_set ?_ GE257.out) | exact HB.out)⟩⟩
    · have H1 : (daytime_Stamp.j0 k a0 a2 true t253 t254 t255) = some (r1, r2) := by rw [if_neg (show ¬ (some q258).isNone = true by simp)] at H; exact H
      clear H
      have H := H1
      clear H1
      try simp only [errW_none, errW_some]
      have H' := Aside0.mk H
      clear H
      go_wp2
      go_meet
      case rel => exact ⟨_, (true), (by first | rfl | (simp; done) | (simp [*]; done)), H', ⟨by first | omega | exact Nat.le_refl _⟩, ⟨by (with_reducible repeat (first | refine blk_drewN ?_ _ | refine blk_drew ?_ | refine blk_alloc ?_ _)); refine blk_put (cs := #[.int .i64 t253, .int .i64 t254, .int .i64 0]) ?_ 2 _ rfl; (with_reducible repeat (first | refine blk_drewN ?_ _ | refine blk_drew ?_ | refine blk_alloc ?_ _)); refine blk_put (cs := #[.int .i64 t253, .int .i64 0, .int .i64 0]) ?_ 1 _ rfl; (with_reducible repeat (first | refine blk_drewN ?_ _ | refine blk_drew ?_ | refine blk_alloc ?_ _)); refine blk_put (cs := #[.int .i64 0, .int .i64 0, .int .i64 0]) ?_ 0 _ rfl; (with_reducible repeat (first | refine blk_drewN ?_ _ | refine blk_drew ?_ | refine blk_alloc ?_ _)); exact BK257.out⟩, ⟨by repeat (first | (with_reducible first | exact HB.out | apply below_alloc | apply pw_below_drewN | apply below_drew1 | refine below_set ?_ GE257.out) | exact HB.out)⟩⟩
  case rest =>
    clear HC5
    try clear p2
    try clear q2
    try clear c3
    try clear c9
    try clear c9b0
    try clear hcz8_0
    try clear hcz8_1
    try clear hcz8_2
    try clear hfz8_0
    try clear hfz8_1
    try clear hfz8_2
    try clear q258
    obtain ⟨kq, x26_4, rfl, HA, HJ4, BK257, HB⟩ := hcut
    cases kq with
    | zero => exact absurd HA.out (by simp [daytime_Stamp.j0])
    | succ kj4 =>
      have H := HA.out
      clear HA
      simp only [daytime_Stamp.j0] at H
      by_cases c10 : x26_4 = true
      · subst c10
        have H1 : (some ((⟨#[]⟩ : ByteArray), some 1)) = some (r1, r2) := by rw [if_pos rfl] at H; exact H
        clear H
        have H := H1
        clear H1
        simp only [Option.some.injEq, Prod.mk.injEq] at H
        obtain ⟨rfl, rfl⟩ := H
        go_wp2
        go_ret2
        exact ⟨by first | rfl | (simp [errW_none, errW_some] <;> rfl) | (simp [*, errW_none, errW_some] <;> rfl), by repeat (first | (with_reducible first | exact HB.out | apply below_alloc | apply pw_below_drewN | apply below_drew1 | refine below_set ?_ GE257.out) | exact HB.out)⟩
      · replace c10 := Bool.eq_false_iff.mpr c10
        subst c10
        have H1 : ((civil_Of.f kj4 a0).bind fun bt259 => (if bt259.2.2.2.isNone = true then ((civil_Text.f kj4 bt259.1 bt259.2.1 bt259.2.2.1).bind fun bt265 => (if bt265.2.isNone = true then (if bt265.1.size + 1 ≤ 9223372036854775807 then ((daytime_digits.f t253 2).bind fun t268 => (if (bt265.1 ++ (⟨#[84]⟩ : ByteArray)).size + t268.size ≤ 9223372036854775807 then (if ((bt265.1 ++ (⟨#[84]⟩ : ByteArray)) ++ t268).size + 1 ≤ 9223372036854775807 then ((daytime_digits.f t254 2).bind fun t269 => (if (((bt265.1 ++ (⟨#[84]⟩ : ByteArray)) ++ t268) ++ (⟨#[58]⟩ : ByteArray)).size + t269.size ≤ 9223372036854775807 then (if ((((bt265.1 ++ (⟨#[84]⟩ : ByteArray)) ++ t268) ++ (⟨#[58]⟩ : ByteArray)) ++ t269).size + 1 ≤ 9223372036854775807 then ((daytime_digits.f t255 2).bind fun t270 => (if (((((bt265.1 ++ (⟨#[84]⟩ : ByteArray)) ++ t268) ++ (⟨#[58]⟩ : ByteArray)) ++ t269) ++ (⟨#[58]⟩ : ByteArray)).size + t270.size ≤ 9223372036854775807 then (if ((((((bt265.1 ++ (⟨#[84]⟩ : ByteArray)) ++ t268) ++ (⟨#[58]⟩ : ByteArray)) ++ t269) ++ (⟨#[58]⟩ : ByteArray)) ++ t270).size + 1 ≤ 9223372036854775807 then ((daytime_digits.f a2 9).bind fun t271 => (if (((((((bt265.1 ++ (⟨#[84]⟩ : ByteArray)) ++ t268) ++ (⟨#[58]⟩ : ByteArray)) ++ t269) ++ (⟨#[58]⟩ : ByteArray)) ++ t270) ++ (⟨#[46]⟩ : ByteArray)).size + t271.size ≤ 9223372036854775807 then (some ((((((((bt265.1 ++ (⟨#[84]⟩ : ByteArray)) ++ t268) ++ (⟨#[58]⟩ : ByteArray)) ++ t269) ++ (⟨#[58]⟩ : ByteArray)) ++ t270) ++ (⟨#[46]⟩ : ByteArray)) ++ t271, none)) else (none))) else (none)) else (none))) else (none)) else (none))) else (none)) else (none))) else (none)) else (some ((⟨#[]⟩ : ByteArray), some (bt265.2.getD 0))))) else (some ((⟨#[]⟩ : ByteArray), some (bt259.2.2.2.getD 0))))) = some (r1, r2) := by rw [if_neg (show ¬ (false = true) by decide)] at H; exact H
        clear H
        have H := H1
        clear H1
        replace H := Option.bind_eq_some_iff.mp H
        obtain ⟨⟨t259, t260, t261, t262⟩, A110, H⟩ := H
        replace H : (if t262.isNone = true then ((civil_Text.f kj4 t259 t260 t261).bind fun bt265 => (if bt265.2.isNone = true then (if bt265.1.size + 1 ≤ 9223372036854775807 then ((daytime_digits.f t253 2).bind fun t268 => (if (bt265.1 ++ (⟨#[84]⟩ : ByteArray)).size + t268.size ≤ 9223372036854775807 then (if ((bt265.1 ++ (⟨#[84]⟩ : ByteArray)) ++ t268).size + 1 ≤ 9223372036854775807 then ((daytime_digits.f t254 2).bind fun t269 => (if (((bt265.1 ++ (⟨#[84]⟩ : ByteArray)) ++ t268) ++ (⟨#[58]⟩ : ByteArray)).size + t269.size ≤ 9223372036854775807 then (if ((((bt265.1 ++ (⟨#[84]⟩ : ByteArray)) ++ t268) ++ (⟨#[58]⟩ : ByteArray)) ++ t269).size + 1 ≤ 9223372036854775807 then ((daytime_digits.f t255 2).bind fun t270 => (if (((((bt265.1 ++ (⟨#[84]⟩ : ByteArray)) ++ t268) ++ (⟨#[58]⟩ : ByteArray)) ++ t269) ++ (⟨#[58]⟩ : ByteArray)).size + t270.size ≤ 9223372036854775807 then (if ((((((bt265.1 ++ (⟨#[84]⟩ : ByteArray)) ++ t268) ++ (⟨#[58]⟩ : ByteArray)) ++ t269) ++ (⟨#[58]⟩ : ByteArray)) ++ t270).size + 1 ≤ 9223372036854775807 then ((daytime_digits.f a2 9).bind fun t271 => (if (((((((bt265.1 ++ (⟨#[84]⟩ : ByteArray)) ++ t268) ++ (⟨#[58]⟩ : ByteArray)) ++ t269) ++ (⟨#[58]⟩ : ByteArray)) ++ t270) ++ (⟨#[46]⟩ : ByteArray)).size + t271.size ≤ 9223372036854775807 then (some ((((((((bt265.1 ++ (⟨#[84]⟩ : ByteArray)) ++ t268) ++ (⟨#[58]⟩ : ByteArray)) ++ t269) ++ (⟨#[58]⟩ : ByteArray)) ++ t270) ++ (⟨#[46]⟩ : ByteArray)) ++ t271, none)) else (none))) else (none)) else (none))) else (none)) else (none))) else (none)) else (none))) else (none)) else (some ((⟨#[]⟩ : ByteArray), some (bt265.2.getD 0))))) else (some ((⟨#[]⟩ : ByteArray), some (t262.getD 0)))) = some (r1, r2) := H
        have A11 := Aside0.mk A110
        clear A110
        rcases t262 with _ | q264
        · have H1 : ((civil_Text.f kj4 t259 t260 t261).bind fun bt265 => (if bt265.2.isNone = true then (if bt265.1.size + 1 ≤ 9223372036854775807 then ((daytime_digits.f t253 2).bind fun t268 => (if (bt265.1 ++ (⟨#[84]⟩ : ByteArray)).size + t268.size ≤ 9223372036854775807 then (if ((bt265.1 ++ (⟨#[84]⟩ : ByteArray)) ++ t268).size + 1 ≤ 9223372036854775807 then ((daytime_digits.f t254 2).bind fun t269 => (if (((bt265.1 ++ (⟨#[84]⟩ : ByteArray)) ++ t268) ++ (⟨#[58]⟩ : ByteArray)).size + t269.size ≤ 9223372036854775807 then (if ((((bt265.1 ++ (⟨#[84]⟩ : ByteArray)) ++ t268) ++ (⟨#[58]⟩ : ByteArray)) ++ t269).size + 1 ≤ 9223372036854775807 then ((daytime_digits.f t255 2).bind fun t270 => (if (((((bt265.1 ++ (⟨#[84]⟩ : ByteArray)) ++ t268) ++ (⟨#[58]⟩ : ByteArray)) ++ t269) ++ (⟨#[58]⟩ : ByteArray)).size + t270.size ≤ 9223372036854775807 then (if ((((((bt265.1 ++ (⟨#[84]⟩ : ByteArray)) ++ t268) ++ (⟨#[58]⟩ : ByteArray)) ++ t269) ++ (⟨#[58]⟩ : ByteArray)) ++ t270).size + 1 ≤ 9223372036854775807 then ((daytime_digits.f a2 9).bind fun t271 => (if (((((((bt265.1 ++ (⟨#[84]⟩ : ByteArray)) ++ t268) ++ (⟨#[58]⟩ : ByteArray)) ++ t269) ++ (⟨#[58]⟩ : ByteArray)) ++ t270) ++ (⟨#[46]⟩ : ByteArray)).size + t271.size ≤ 9223372036854775807 then (some ((((((((bt265.1 ++ (⟨#[84]⟩ : ByteArray)) ++ t268) ++ (⟨#[58]⟩ : ByteArray)) ++ t269) ++ (⟨#[58]⟩ : ByteArray)) ++ t270) ++ (⟨#[46]⟩ : ByteArray)) ++ t271, none)) else (none))) else (none)) else (none))) else (none)) else (none))) else (none)) else (none))) else (none)) else (some ((⟨#[]⟩ : ByteArray), some (bt265.2.getD 0))))) = some (r1, r2) := by rw [if_pos (show (none : Option Int).isNone = true by rfl)] at H; exact H
          clear H
          have H := H1
          clear H1
          try simp only [errW_none, errW_some]
          replace H := Option.bind_eq_some_iff.mp H
          obtain ⟨⟨t265, t266⟩, A120, H⟩ := H
          replace H : (if t266.isNone = true then (if t265.size + 1 ≤ 9223372036854775807 then ((daytime_digits.f t253 2).bind fun t268 => (if (t265 ++ (⟨#[84]⟩ : ByteArray)).size + t268.size ≤ 9223372036854775807 then (if ((t265 ++ (⟨#[84]⟩ : ByteArray)) ++ t268).size + 1 ≤ 9223372036854775807 then ((daytime_digits.f t254 2).bind fun t269 => (if (((t265 ++ (⟨#[84]⟩ : ByteArray)) ++ t268) ++ (⟨#[58]⟩ : ByteArray)).size + t269.size ≤ 9223372036854775807 then (if ((((t265 ++ (⟨#[84]⟩ : ByteArray)) ++ t268) ++ (⟨#[58]⟩ : ByteArray)) ++ t269).size + 1 ≤ 9223372036854775807 then ((daytime_digits.f t255 2).bind fun t270 => (if (((((t265 ++ (⟨#[84]⟩ : ByteArray)) ++ t268) ++ (⟨#[58]⟩ : ByteArray)) ++ t269) ++ (⟨#[58]⟩ : ByteArray)).size + t270.size ≤ 9223372036854775807 then (if ((((((t265 ++ (⟨#[84]⟩ : ByteArray)) ++ t268) ++ (⟨#[58]⟩ : ByteArray)) ++ t269) ++ (⟨#[58]⟩ : ByteArray)) ++ t270).size + 1 ≤ 9223372036854775807 then ((daytime_digits.f a2 9).bind fun t271 => (if (((((((t265 ++ (⟨#[84]⟩ : ByteArray)) ++ t268) ++ (⟨#[58]⟩ : ByteArray)) ++ t269) ++ (⟨#[58]⟩ : ByteArray)) ++ t270) ++ (⟨#[46]⟩ : ByteArray)).size + t271.size ≤ 9223372036854775807 then (some ((((((((t265 ++ (⟨#[84]⟩ : ByteArray)) ++ t268) ++ (⟨#[58]⟩ : ByteArray)) ++ t269) ++ (⟨#[58]⟩ : ByteArray)) ++ t270) ++ (⟨#[46]⟩ : ByteArray)) ++ t271, none)) else (none))) else (none)) else (none))) else (none)) else (none))) else (none)) else (none))) else (none)) else (some ((⟨#[]⟩ : ByteArray), some (t266.getD 0)))) = some (r1, r2) := H
          have A12 := Aside0.mk A120
          clear A120
          rcases t266 with _ | q267
          · have H1 : (if t265.size + 1 ≤ 9223372036854775807 then ((daytime_digits.f t253 2).bind fun t268 => (if (t265 ++ (⟨#[84]⟩ : ByteArray)).size + t268.size ≤ 9223372036854775807 then (if ((t265 ++ (⟨#[84]⟩ : ByteArray)) ++ t268).size + 1 ≤ 9223372036854775807 then ((daytime_digits.f t254 2).bind fun t269 => (if (((t265 ++ (⟨#[84]⟩ : ByteArray)) ++ t268) ++ (⟨#[58]⟩ : ByteArray)).size + t269.size ≤ 9223372036854775807 then (if ((((t265 ++ (⟨#[84]⟩ : ByteArray)) ++ t268) ++ (⟨#[58]⟩ : ByteArray)) ++ t269).size + 1 ≤ 9223372036854775807 then ((daytime_digits.f t255 2).bind fun t270 => (if (((((t265 ++ (⟨#[84]⟩ : ByteArray)) ++ t268) ++ (⟨#[58]⟩ : ByteArray)) ++ t269) ++ (⟨#[58]⟩ : ByteArray)).size + t270.size ≤ 9223372036854775807 then (if ((((((t265 ++ (⟨#[84]⟩ : ByteArray)) ++ t268) ++ (⟨#[58]⟩ : ByteArray)) ++ t269) ++ (⟨#[58]⟩ : ByteArray)) ++ t270).size + 1 ≤ 9223372036854775807 then ((daytime_digits.f a2 9).bind fun t271 => (if (((((((t265 ++ (⟨#[84]⟩ : ByteArray)) ++ t268) ++ (⟨#[58]⟩ : ByteArray)) ++ t269) ++ (⟨#[58]⟩ : ByteArray)) ++ t270) ++ (⟨#[46]⟩ : ByteArray)).size + t271.size ≤ 9223372036854775807 then (some ((((((((t265 ++ (⟨#[84]⟩ : ByteArray)) ++ t268) ++ (⟨#[58]⟩ : ByteArray)) ++ t269) ++ (⟨#[58]⟩ : ByteArray)) ++ t270) ++ (⟨#[46]⟩ : ByteArray)) ++ t271, none)) else (none))) else (none)) else (none))) else (none)) else (none))) else (none)) else (none))) else (none)) = some (r1, r2) := by rw [if_pos (show (none : Option Int).isNone = true by rfl)] at H; exact H
            clear H
            have H := H1
            clear H1
            try simp only [errW_none, errW_some]
            by_cases c13 : t265.size + 1 ≤ 9223372036854775807
            · rw [if_pos c13] at H
              have c13b0 := eq_true c13
              have c13b1 : decide (t265.size + 1 ≤ 9223372036854775807) = true := decide_eq_true c13
              try have c13b2 : (9223372036854775807 < t265.size + 1) = False := eq_false (Nat.not_lt.2 c13)
              replace H := Option.bind_eq_some_iff.mp H
              obtain ⟨t268, A140, H⟩ := H
              replace H : (if (t265 ++ (⟨#[84]⟩ : ByteArray)).size + t268.size ≤ 9223372036854775807 then (if ((t265 ++ (⟨#[84]⟩ : ByteArray)) ++ t268).size + 1 ≤ 9223372036854775807 then ((daytime_digits.f t254 2).bind fun t269 => (if (((t265 ++ (⟨#[84]⟩ : ByteArray)) ++ t268) ++ (⟨#[58]⟩ : ByteArray)).size + t269.size ≤ 9223372036854775807 then (if ((((t265 ++ (⟨#[84]⟩ : ByteArray)) ++ t268) ++ (⟨#[58]⟩ : ByteArray)) ++ t269).size + 1 ≤ 9223372036854775807 then ((daytime_digits.f t255 2).bind fun t270 => (if (((((t265 ++ (⟨#[84]⟩ : ByteArray)) ++ t268) ++ (⟨#[58]⟩ : ByteArray)) ++ t269) ++ (⟨#[58]⟩ : ByteArray)).size + t270.size ≤ 9223372036854775807 then (if ((((((t265 ++ (⟨#[84]⟩ : ByteArray)) ++ t268) ++ (⟨#[58]⟩ : ByteArray)) ++ t269) ++ (⟨#[58]⟩ : ByteArray)) ++ t270).size + 1 ≤ 9223372036854775807 then ((daytime_digits.f a2 9).bind fun t271 => (if (((((((t265 ++ (⟨#[84]⟩ : ByteArray)) ++ t268) ++ (⟨#[58]⟩ : ByteArray)) ++ t269) ++ (⟨#[58]⟩ : ByteArray)) ++ t270) ++ (⟨#[46]⟩ : ByteArray)).size + t271.size ≤ 9223372036854775807 then (some ((((((((t265 ++ (⟨#[84]⟩ : ByteArray)) ++ t268) ++ (⟨#[58]⟩ : ByteArray)) ++ t269) ++ (⟨#[58]⟩ : ByteArray)) ++ t270) ++ (⟨#[46]⟩ : ByteArray)) ++ t271, none)) else (none))) else (none)) else (none))) else (none)) else (none))) else (none)) else (none)) = some (r1, r2) := H
              have A14 := Aside0.mk A140
              clear A140
              by_cases c15 : (t265 ++ (⟨#[84]⟩ : ByteArray)).size + t268.size ≤ 9223372036854775807
              · rw [if_pos c15] at H
                have c15b0 := eq_true c15
                have c15b1 : decide ((t265 ++ (⟨#[84]⟩ : ByteArray)).size + t268.size ≤ 9223372036854775807) = true := decide_eq_true c15
                try have c15b2 : (9223372036854775807 < (t265 ++ (⟨#[84]⟩ : ByteArray)).size + t268.size) = False := eq_false (Nat.not_lt.2 c15)
                try have c15b3 : (9223372036854775807 < t265.size + 1 + t268.size) = False := eq_false (by have q_ := c15; simp only [ByteArray.size_append] at q_; exact Nat.not_lt.2 q_)
                by_cases c16 : ((t265 ++ (⟨#[84]⟩ : ByteArray)) ++ t268).size + 1 ≤ 9223372036854775807
                · rw [if_pos c16] at H
                  have c16b0 := eq_true c16
                  have c16b1 : decide (((t265 ++ (⟨#[84]⟩ : ByteArray)) ++ t268).size + 1 ≤ 9223372036854775807) = true := decide_eq_true c16
                  try have c16b2 : (9223372036854775807 < ((t265 ++ (⟨#[84]⟩ : ByteArray)) ++ t268).size + 1) = False := eq_false (Nat.not_lt.2 c16)
                  try have c16b3 : (9223372036854775807 < t265.size + 1 + t268.size + 1) = False := eq_false (by have q_ := c16; simp only [ByteArray.size_append] at q_; exact Nat.not_lt.2 q_)
                  replace H := Option.bind_eq_some_iff.mp H
                  obtain ⟨t269, A170, H⟩ := H
                  replace H : (if (((t265 ++ (⟨#[84]⟩ : ByteArray)) ++ t268) ++ (⟨#[58]⟩ : ByteArray)).size + t269.size ≤ 9223372036854775807 then (if ((((t265 ++ (⟨#[84]⟩ : ByteArray)) ++ t268) ++ (⟨#[58]⟩ : ByteArray)) ++ t269).size + 1 ≤ 9223372036854775807 then ((daytime_digits.f t255 2).bind fun t270 => (if (((((t265 ++ (⟨#[84]⟩ : ByteArray)) ++ t268) ++ (⟨#[58]⟩ : ByteArray)) ++ t269) ++ (⟨#[58]⟩ : ByteArray)).size + t270.size ≤ 9223372036854775807 then (if ((((((t265 ++ (⟨#[84]⟩ : ByteArray)) ++ t268) ++ (⟨#[58]⟩ : ByteArray)) ++ t269) ++ (⟨#[58]⟩ : ByteArray)) ++ t270).size + 1 ≤ 9223372036854775807 then ((daytime_digits.f a2 9).bind fun t271 => (if (((((((t265 ++ (⟨#[84]⟩ : ByteArray)) ++ t268) ++ (⟨#[58]⟩ : ByteArray)) ++ t269) ++ (⟨#[58]⟩ : ByteArray)) ++ t270) ++ (⟨#[46]⟩ : ByteArray)).size + t271.size ≤ 9223372036854775807 then (some ((((((((t265 ++ (⟨#[84]⟩ : ByteArray)) ++ t268) ++ (⟨#[58]⟩ : ByteArray)) ++ t269) ++ (⟨#[58]⟩ : ByteArray)) ++ t270) ++ (⟨#[46]⟩ : ByteArray)) ++ t271, none)) else (none))) else (none)) else (none))) else (none)) else (none)) = some (r1, r2) := H
                  have A17 := Aside0.mk A170
                  clear A170
                  by_cases c18 : (((t265 ++ (⟨#[84]⟩ : ByteArray)) ++ t268) ++ (⟨#[58]⟩ : ByteArray)).size + t269.size ≤ 9223372036854775807
                  · rw [if_pos c18] at H
                    have c18b0 := eq_true c18
                    have c18b1 : decide ((((t265 ++ (⟨#[84]⟩ : ByteArray)) ++ t268) ++ (⟨#[58]⟩ : ByteArray)).size + t269.size ≤ 9223372036854775807) = true := decide_eq_true c18
                    try have c18b2 : (9223372036854775807 < (((t265 ++ (⟨#[84]⟩ : ByteArray)) ++ t268) ++ (⟨#[58]⟩ : ByteArray)).size + t269.size) = False := eq_false (Nat.not_lt.2 c18)
                    try have c18b3 : (9223372036854775807 < t265.size + 1 + t268.size + 1 + t269.size) = False := eq_false (by have q_ := c18; simp only [ByteArray.size_append] at q_; exact Nat.not_lt.2 q_)
                    by_cases c19 : ((((t265 ++ (⟨#[84]⟩ : ByteArray)) ++ t268) ++ (⟨#[58]⟩ : ByteArray)) ++ t269).size + 1 ≤ 9223372036854775807
                    · rw [if_pos c19] at H
                      have c19b0 := eq_true c19
                      have c19b1 : decide (((((t265 ++ (⟨#[84]⟩ : ByteArray)) ++ t268) ++ (⟨#[58]⟩ : ByteArray)) ++ t269).size + 1 ≤ 9223372036854775807) = true := decide_eq_true c19
                      try have c19b2 : (9223372036854775807 < ((((t265 ++ (⟨#[84]⟩ : ByteArray)) ++ t268) ++ (⟨#[58]⟩ : ByteArray)) ++ t269).size + 1) = False := eq_false (Nat.not_lt.2 c19)
                      try have c19b3 : (9223372036854775807 < t265.size + 1 + t268.size + 1 + t269.size + 1) = False := eq_false (by have q_ := c19; simp only [ByteArray.size_append] at q_; exact Nat.not_lt.2 q_)
                      replace H := Option.bind_eq_some_iff.mp H
                      obtain ⟨t270, A200, H⟩ := H
                      replace H : (if (((((t265 ++ (⟨#[84]⟩ : ByteArray)) ++ t268) ++ (⟨#[58]⟩ : ByteArray)) ++ t269) ++ (⟨#[58]⟩ : ByteArray)).size + t270.size ≤ 9223372036854775807 then (if ((((((t265 ++ (⟨#[84]⟩ : ByteArray)) ++ t268) ++ (⟨#[58]⟩ : ByteArray)) ++ t269) ++ (⟨#[58]⟩ : ByteArray)) ++ t270).size + 1 ≤ 9223372036854775807 then ((daytime_digits.f a2 9).bind fun t271 => (if (((((((t265 ++ (⟨#[84]⟩ : ByteArray)) ++ t268) ++ (⟨#[58]⟩ : ByteArray)) ++ t269) ++ (⟨#[58]⟩ : ByteArray)) ++ t270) ++ (⟨#[46]⟩ : ByteArray)).size + t271.size ≤ 9223372036854775807 then (some ((((((((t265 ++ (⟨#[84]⟩ : ByteArray)) ++ t268) ++ (⟨#[58]⟩ : ByteArray)) ++ t269) ++ (⟨#[58]⟩ : ByteArray)) ++ t270) ++ (⟨#[46]⟩ : ByteArray)) ++ t271, none)) else (none))) else (none)) else (none)) = some (r1, r2) := H
                      have A20 := Aside0.mk A200
                      clear A200
                      by_cases c21 : (((((t265 ++ (⟨#[84]⟩ : ByteArray)) ++ t268) ++ (⟨#[58]⟩ : ByteArray)) ++ t269) ++ (⟨#[58]⟩ : ByteArray)).size + t270.size ≤ 9223372036854775807
                      · rw [if_pos c21] at H
                        have c21b0 := eq_true c21
                        have c21b1 : decide ((((((t265 ++ (⟨#[84]⟩ : ByteArray)) ++ t268) ++ (⟨#[58]⟩ : ByteArray)) ++ t269) ++ (⟨#[58]⟩ : ByteArray)).size + t270.size ≤ 9223372036854775807) = true := decide_eq_true c21
                        try have c21b2 : (9223372036854775807 < (((((t265 ++ (⟨#[84]⟩ : ByteArray)) ++ t268) ++ (⟨#[58]⟩ : ByteArray)) ++ t269) ++ (⟨#[58]⟩ : ByteArray)).size + t270.size) = False := eq_false (Nat.not_lt.2 c21)
                        try have c21b3 : (9223372036854775807 < t265.size + 1 + t268.size + 1 + t269.size + 1 + t270.size) = False := eq_false (by have q_ := c21; simp only [ByteArray.size_append] at q_; exact Nat.not_lt.2 q_)
                        by_cases c22 : ((((((t265 ++ (⟨#[84]⟩ : ByteArray)) ++ t268) ++ (⟨#[58]⟩ : ByteArray)) ++ t269) ++ (⟨#[58]⟩ : ByteArray)) ++ t270).size + 1 ≤ 9223372036854775807
                        · rw [if_pos c22] at H
                          have c22b0 := eq_true c22
                          have c22b1 : decide (((((((t265 ++ (⟨#[84]⟩ : ByteArray)) ++ t268) ++ (⟨#[58]⟩ : ByteArray)) ++ t269) ++ (⟨#[58]⟩ : ByteArray)) ++ t270).size + 1 ≤ 9223372036854775807) = true := decide_eq_true c22
                          try have c22b2 : (9223372036854775807 < ((((((t265 ++ (⟨#[84]⟩ : ByteArray)) ++ t268) ++ (⟨#[58]⟩ : ByteArray)) ++ t269) ++ (⟨#[58]⟩ : ByteArray)) ++ t270).size + 1) = False := eq_false (Nat.not_lt.2 c22)
                          try have c22b3 : (9223372036854775807 < t265.size + 1 + t268.size + 1 + t269.size + 1 + t270.size + 1) = False := eq_false (by have q_ := c22; simp only [ByteArray.size_append] at q_; exact Nat.not_lt.2 q_)
                          replace H := Option.bind_eq_some_iff.mp H
                          obtain ⟨t271, A230, H⟩ := H
                          replace H : (if (((((((t265 ++ (⟨#[84]⟩ : ByteArray)) ++ t268) ++ (⟨#[58]⟩ : ByteArray)) ++ t269) ++ (⟨#[58]⟩ : ByteArray)) ++ t270) ++ (⟨#[46]⟩ : ByteArray)).size + t271.size ≤ 9223372036854775807 then (some ((((((((t265 ++ (⟨#[84]⟩ : ByteArray)) ++ t268) ++ (⟨#[58]⟩ : ByteArray)) ++ t269) ++ (⟨#[58]⟩ : ByteArray)) ++ t270) ++ (⟨#[46]⟩ : ByteArray)) ++ t271, none)) else (none)) = some (r1, r2) := H
                          have A23 := Aside0.mk A230
                          clear A230
                          by_cases c24 : (((((((t265 ++ (⟨#[84]⟩ : ByteArray)) ++ t268) ++ (⟨#[58]⟩ : ByteArray)) ++ t269) ++ (⟨#[58]⟩ : ByteArray)) ++ t270) ++ (⟨#[46]⟩ : ByteArray)).size + t271.size ≤ 9223372036854775807
                          · rw [if_pos c24] at H
                            have c24b0 := eq_true c24
                            have c24b1 : decide ((((((((t265 ++ (⟨#[84]⟩ : ByteArray)) ++ t268) ++ (⟨#[58]⟩ : ByteArray)) ++ t269) ++ (⟨#[58]⟩ : ByteArray)) ++ t270) ++ (⟨#[46]⟩ : ByteArray)).size + t271.size ≤ 9223372036854775807) = true := decide_eq_true c24
                            try have c24b2 : (9223372036854775807 < (((((((t265 ++ (⟨#[84]⟩ : ByteArray)) ++ t268) ++ (⟨#[58]⟩ : ByteArray)) ++ t269) ++ (⟨#[58]⟩ : ByteArray)) ++ t270) ++ (⟨#[46]⟩ : ByteArray)).size + t271.size) = False := eq_false (Nat.not_lt.2 c24)
                            try have c24b3 : (9223372036854775807 < t265.size + 1 + t268.size + 1 + t269.size + 1 + t270.size + 1 + t271.size) = False := eq_false (by have q_ := c24; simp only [ByteArray.size_append] at q_; exact Nat.not_lt.2 q_)
                            simp only [Option.some.injEq, Prod.mk.injEq] at H
                            obtain ⟨rfl, rfl⟩ := H
                            try go_wp2_with (first | ((with_reducible refine gate_callee (f := 17) rfl ?_); refine goesL_ (some 30) rfl rfl Tryz.func17 (by kernel_rfl) rfl #[.int .i64 a0] rfl (by (try simp only [List.map_toArray, List.map_cons, List.map_nil]); first | done | rfl | (simp only [List.length_drop, List.length_take]; rfl)) ?_; (with_reducible refine (civil_Of.calls kj4 a0 t259 t260 t261 none _ A11.out).mono ?_); rintro e w25 ⟨rfl, hb⟩; refine ⟨_, rfl, ?_⟩; have n0_ := Aside0.mk (blk_below (g := gb257) (o := .cells #[.int .i64 t253, .int .i64 t254, .int .i64 t255] 50 (0, 0)) (by (with_reducible repeat (first | refine blk_drewN ?_ _ | refine blk_drew ?_ | refine blk_alloc ?_ _)); exact BK257.out) hb); have n1_ := Aside0.mk (below_step (by repeat (first | (with_reducible first | exact HB.out | apply below_alloc | apply pw_below_drewN | apply below_drew1 | refine below_set ?_ GE257.out) | exact HB.out)) hb); clear BK257; clear HB; have BK257 := n0_; have HB := n1_; clear n0_ n1_; (try clear hb); (try clear hb2); (try clear hk); (try clear hi); (try simp only [errW_none, errW_some])) | ((with_reducible refine gate_dst (N := 10) rfl ?_); refine box_event ?hg (N := 10) ?hd (cs := #[.int .i64 0, .int .i64 0, .int .i64 0]) (t := 26) ?hr ?_; (case hd => rfl); (case hg => rfl); (case hr => first | (go_simp; done) | (go_simp; rfl)); intro gb263 hg w26 hbox hb; have n0_ := Aside0.mk (blk_below (g := gb257) (o := .cells #[.int .i64 t253, .int .i64 t254, .int .i64 t255] 50 (0, 0)) (by (with_reducible repeat (first | refine blk_drewN ?_ _ | refine blk_drew ?_ | refine blk_alloc ?_ _)); exact BK257.out) hb); have n1_ := Aside0.mk (below_step (by repeat (first | (with_reducible first | exact HB.out | apply below_alloc | apply pw_below_drewN | apply below_drew1 | refine below_set ?_ GE257.out) | exact HB.out)) hb); have n2_ := Aside0.mk (hbox); have n3_ := Aside0.mk ((by rw [hg]; exact (below_size (by repeat (first | (with_reducible first | exact HB.out | apply below_alloc | apply pw_below_drewN | apply below_drew1 | refine below_set ?_ GE257.out) | exact HB.out))) : w.heap.size ≤ gb263)); have n4_ := Aside0.mk ((by rw [hg]; exact (below_size (by repeat (first | (with_reducible first | exact HB.out | apply below_alloc | apply pw_below_drewN | apply below_drew1 | refine below_set ?_ GE257.out) | exact HB.out))) : w.heap.size ≤ gb263)); have n5_ := Aside0.mk ((by rw [hg]; exact Nat.ne_of_lt (blk_lt (g := gb257) (o := .cells #[.int .i64 t253, .int .i64 t254, .int .i64 t255] 50 (0, 0)) (by (with_reducible repeat (first | refine blk_drewN ?_ _ | refine blk_drew ?_ | refine blk_alloc ?_ _)); exact BK257.out)) : gb257 ≠ gb263)); have n6_ := Aside0.mk ((by rw [hg]; exact Nat.ne_of_gt (blk_lt (g := gb257) (o := .cells #[.int .i64 t253, .int .i64 t254, .int .i64 t255] 50 (0, 0)) (by (with_reducible repeat (first | refine blk_drewN ?_ _ | refine blk_drew ?_ | refine blk_alloc ?_ _)); exact BK257.out)) : gb263 ≠ gb257)); clear BK257; clear HB; have BK257 := n0_; have HB := n1_; have BK263 := n2_; have GW263 := n3_; have GE263 := n4_; have NB257_263 := n5_; have NB263_257 := n6_; clear n0_ n1_ n2_ n3_ n4_ n5_ n6_; clear hb hbox hg; have hnb27 := NB263_257.out; have hnc27 := NB257_263.out; have hcz28_0 : w26.cell? ⟨gb263, 0, none⟩ = some (.int .i64 0) := (blk_cell BK263.out 0).trans rfl; have hcz28_1 : w26.cell? ⟨gb263, 1, none⟩ = some (.int .i64 0) := (blk_cell BK263.out 1).trans rfl; have hcz28_2 : w26.cell? ⟨gb263, 2, none⟩ = some (.int .i64 0) := (blk_cell BK263.out 2).trans rfl; have hfz28_0 := blk_frozen BK263.out 0; have hfz28_1 := blk_frozen BK263.out 1; have hfz28_2 := blk_frozen BK263.out 2) | ((with_reducible refine gate_callee (f := 26) rfl ?_); refine goesL_ (some 38) rfl rfl Tryz.func26 (by kernel_rfl) rfl #[.agg #[.int .i64 t259, .int .i64 t260, .int .i64 t261]] rfl (by (try simp only [List.map_toArray, List.map_cons, List.map_nil]); first | done | rfl | (simp only [List.length_drop, List.length_take]; rfl)) ?_; (with_reducible refine (civil_Text.calls kj4 t259 t260 t261 t265 none _ (by first | exact Laid.below HL.out (by repeat (first | (with_reducible first | exact HB.out | apply below_alloc | apply pw_below_drewN | apply below_drew1 | refine below_set ?_ (Aside0.out (by assumption))) | exact HB.out))) A12.out).mono ?_); rintro e w29 ⟨rfl, hb⟩; refine ⟨_, rfl, ?_⟩; have n0_ := Aside0.mk (blk_below (g := gb257) (o := .cells #[.int .i64 t253, .int .i64 t254, .int .i64 t255] 50 (0, 0)) (by (with_reducible repeat (first | refine blk_drewN ?_ _ | refine blk_drew ?_ | refine blk_alloc ?_ _)); refine blk_far ?_ NB257_263.out _; (with_reducible repeat (first | refine blk_drewN ?_ _ | refine blk_drew ?_ | refine blk_alloc ?_ _)); refine blk_far ?_ NB257_263.out _; (with_reducible repeat (first | refine blk_drewN ?_ _ | refine blk_drew ?_ | refine blk_alloc ?_ _)); refine blk_far ?_ NB257_263.out _; (with_reducible repeat (first | refine blk_drewN ?_ _ | refine blk_drew ?_ | refine blk_alloc ?_ _)); exact BK257.out) hb); have n1_ := Aside0.mk (blk_below (g := gb263) (o := .cells #[.int .i64 t259, .int .i64 t260, .int .i64 t261] 26 (0, 0)) (by (with_reducible repeat (first | refine blk_drewN ?_ _ | refine blk_drew ?_ | refine blk_alloc ?_ _)); refine blk_put (cs := #[.int .i64 t259, .int .i64 t260, .int .i64 0]) ?_ 2 _ rfl; (with_reducible repeat (first | refine blk_drewN ?_ _ | refine blk_drew ?_ | refine blk_alloc ?_ _)); refine blk_put (cs := #[.int .i64 t259, .int .i64 0, .int .i64 0]) ?_ 1 _ rfl; (with_reducible repeat (first | refine blk_drewN ?_ _ | refine blk_drew ?_ | refine blk_alloc ?_ _)); refine blk_put (cs := #[.int .i64 0, .int .i64 0, .int .i64 0]) ?_ 0 _ rfl; (with_reducible repeat (first | refine blk_drewN ?_ _ | refine blk_drew ?_ | refine blk_alloc ?_ _)); exact BK263.out) hb); have n2_ := Aside0.mk (below_step (by repeat (first | (with_reducible first | exact HB.out | apply below_alloc | apply pw_below_drewN | apply below_drew1 | refine below_set ?_ GE257.out | refine below_set ?_ GE263.out) | exact HB.out)) hb); clear BK257; clear BK263; clear HB; have BK257 := n0_; have BK263 := n1_; have HB := n2_; clear n0_ n1_ n2_; (try clear hb); (try clear hb2); (try clear hk); (try clear hi); (try simp only [errW_none, errW_some])))
                            have n0_ := Aside0.mk (blk_drew BK257.out)
                            have n1_ := Aside0.mk (blk_drew BK263.out)
                            have n2_ := Aside0.mk (below_drew1 HB.out)
                            clear BK257
                            clear BK263
                            clear HB
                            have BK257 := n0_
                            have BK263 := n1_
                            have HB := n2_
                            clear n0_ n1_ n2_
                            refine start_ (n := 22) (S := fun w' => w'.cell? ⟨gb257, 0, none⟩ = some (.int .i64 t253) ∧ w'.cell? ⟨gb257, 1, none⟩ = some (.int .i64 t254) ∧ w'.cell? ⟨gb257, 2, none⟩ = some (.int .i64 t255)) (ds := []) #[false, false, false, false, false, false, false, false, false, false, false, false, false, false, false, false, false, false, false, false, false, false] (by kernel_rfl) rfl rfl ⟨(blk_cell BK257.out 0).trans rfl, (blk_cell BK257.out 1).trans rfl, (blk_cell BK257.out 2).trans rfl⟩ (fun hHeld => ?_); refine with_tabW daytime_Stamp.tab10 daytime_Stamp.bits10 (fun HT_ HW_ => ?_)
                            generalize w29.drew = w30 at BK257 BK263 HB hHeld ⊢
                            refine pure_ (i := 0) (N := some 44) (v := ?_) (a' := ?_) #[true, false, false, false, false, false, false, false, false, false, false, false, false, false, false, false, false, false, false, false, false, false] rfl rfl (any_of HT_.out (by kernel_rfl)) (fun _ _ _ h => h) (Or.inl ⟨by rfl, ?_⟩) ?_ ?_
                            rotate_left
                            · intro w'
                              go_simp
                              with_reducible rfl
                            rotate_left
                            · simp only [Act.put, List.setIfInBounds_toArray, List.set_cons_zero, List.set_cons_succ, i64_w, i32_w]
                              rfl
                            refine pure_ (i := 1) (N := some 45) (v := ?_) (a' := ?_) #[true, true, false, false, false, false, false, false, false, false, false, false, false, false, false, false, false, false, false, false, false, false] rfl rfl (any_of HT_.out (by kernel_rfl)) (fun _ _ _ h => h) (Or.inl ⟨by rfl, ?_⟩) ?_ ?_
                            rotate_left
                            · intro w'
                              go_simp
                              with_reducible rfl
                            rotate_left
                            · simp only [Act.put, List.setIfInBounds_toArray, List.set_cons_zero, List.set_cons_succ, i64_w, i32_w]
                              rfl
                            refine pure_ (i := 2) (N := some 46) (v := ?_) (a' := ?_) #[true, true, true, false, false, false, false, false, false, false, false, false, false, false, false, false, false, false, false, false, false, false] rfl rfl (any_of HT_.out (by kernel_rfl)) (fun _ _ _ h => h) (Or.inl ⟨by rfl, ?_⟩) ?_ ?_
                            rotate_left
                            · intro w'
                              go_simp
                              with_reducible rfl
                            rotate_left
                            · simp only [Act.put, List.setIfInBounds_toArray, List.set_cons_zero, List.set_cons_succ, i64_w, i32_w]
                              rfl
                            refine pure_ (i := 7) (N := some 51) (v := ?_) (a' := ?_) #[true, true, true, false, false, false, false, true, false, false, false, false, false, false, false, false, false, false, false, false, false, false] rfl rfl (any_of HT_.out (by kernel_rfl)) (fun _ _ _ h => h) (Or.inl ⟨by rfl, ?_⟩) ?_ ?_
                            rotate_left
                            · intro w'
                              go_simp
                              with_reducible rfl
                            rotate_left
                            · simp only [Act.put, List.setIfInBounds_toArray, List.set_cons_zero, List.set_cons_succ, i64_w, i32_w]
                              rfl
                            refine pure_ (i := 12) (N := some 56) (v := ?_) (a' := ?_) #[true, true, true, false, false, false, false, true, false, false, false, false, true, false, false, false, false, false, false, false, false, false] rfl rfl (any_of HT_.out (by kernel_rfl)) (fun _ _ _ h => h) (Or.inl ⟨by rfl, ?_⟩) ?_ ?_
                            rotate_left
                            · intro w'
                              go_simp
                              with_reducible rfl
                            rotate_left
                            · simp only [Act.put, List.setIfInBounds_toArray, List.set_cons_zero, List.set_cons_succ, i64_w, i32_w]
                              rfl
                            refine pure_ (i := 17) (N := some 61) (v := ?_) (a' := ?_) #[true, true, true, false, false, false, false, true, false, false, false, false, true, false, false, false, false, true, false, false, false, false] rfl rfl (any_of HT_.out (by kernel_rfl)) (fun _ _ _ h => h) (Or.inl ⟨by rfl, ?_⟩) ?_ ?_
                            rotate_left
                            · intro w'
                              go_simp
                              with_reducible rfl
                            rotate_left
                            · simp only [Act.put, List.setIfInBounds_toArray, List.set_cons_zero, List.set_cons_succ, i64_w, i32_w]
                              rfl
                            refine take_ (i := 3) (N := some 47) (v := ?_) (a' := ?_) #[true, true, true, true, false, false, false, true, false, false, false, false, true, false, false, false, false, true, false, false, false, false] rfl rfl (take_ofW HT_.out HW_.out (by kernel_rfl)) (fun _ _ _ h => h) (Or.inl ⟨by rfl, ?_⟩) hHeld ?_ ?_
                            rotate_left
                            · rintro w' ⟨s0, s1, s2⟩
                              go_simp
                              with_reducible rfl
                            rotate_left
                            · simp only [Act.put, List.setIfInBounds_toArray, List.set_cons_zero, List.set_cons_succ, i64_w, i32_w]
                              rfl
                            refine take_ (i := 8) (N := some 52) (v := ?_) (a' := ?_) #[true, true, true, true, false, false, false, true, true, false, false, false, true, false, false, false, false, true, false, false, false, false] rfl rfl (take_ofW HT_.out HW_.out (by kernel_rfl)) (fun _ _ _ h => h) (Or.inl ⟨by rfl, ?_⟩) hHeld ?_ ?_
                            rotate_left
                            · rintro w' ⟨s0, s1, s2⟩
                              go_simp
                              with_reducible rfl
                            rotate_left
                            · simp only [Act.put, List.setIfInBounds_toArray, List.set_cons_zero, List.set_cons_succ, i64_w, i32_w]
                              rfl
                            refine take_ (i := 13) (N := some 57) (v := ?_) (a' := ?_) #[true, true, true, true, false, false, false, true, true, false, false, false, true, true, false, false, false, true, false, false, false, false] rfl rfl (take_ofW HT_.out HW_.out (by kernel_rfl)) (fun _ _ _ h => h) (Or.inl ⟨by rfl, ?_⟩) hHeld ?_ ?_
                            rotate_left
                            · rintro w' ⟨s0, s1, s2⟩
                              go_simp
                              with_reducible rfl
                            rotate_left
                            · simp only [Act.put, List.setIfInBounds_toArray, List.set_cons_zero, List.set_cons_succ, i64_w, i32_w]
                              rfl
                            refine one_ (i := 4) (N := some 48) #[true, true, true, true, true, false, false, true, true, false, false, false, true, true, false, false, false, true, false, false, false, false] rfl rfl (one_of HT_.out (by kernel_rfl)) (by decide) (fun K hK => ?_)
                            refine goes_ Tryz.func100 (by kernel_rfl) rfl #[.int .i64 t253, .int .i64 2] (by rfl) rfl rfl (by (try simp only [List.map_toArray, List.map_cons, List.map_nil]); first | done | rfl | (simp only [List.length_drop, List.length_take]; rfl)) ?_
                            with_reducible refine (daytime_digits.calls t253 2 t268 _ (by first | exact Laid.below HL.out (by repeat (first | (with_reducible first | exact HB.out | apply below_alloc | apply pw_below_drewN | apply below_drew1 | refine below_set ?_ (Aside0.out (by assumption))) | exact HB.out))) A14.out).mono ?_
                            rintro e w31 ⟨rfl, hb⟩
                            refine ⟨_, rfl, ?_⟩
                            have n0_ := Aside0.mk (blk_below (g := gb257) (o := .cells #[.int .i64 t253, .int .i64 t254, .int .i64 t255] 50 (0, 0)) (by (with_reducible repeat (first | refine blk_drewN ?_ _ | refine blk_drew ?_ | refine blk_alloc ?_ _)); exact BK257.out) hb)
                            have n1_ := Aside0.mk (blk_below (g := gb263) (o := .cells #[.int .i64 t259, .int .i64 t260, .int .i64 t261] 26 (0, 0)) (by (with_reducible repeat (first | refine blk_drewN ?_ _ | refine blk_drew ?_ | refine blk_alloc ?_ _)); exact BK263.out) hb)
                            have n2_ := Aside0.mk (below_step (by repeat (first | (with_reducible first | exact HB.out | apply below_alloc | apply pw_below_drewN | apply below_drew1 | refine below_set ?_ GE257.out | refine below_set ?_ GE263.out) | exact HB.out)) hb)
                            clear BK257
                            clear BK263
                            clear HB
                            have BK257 := n0_
                            have BK263 := n1_
                            have HB := n2_
                            clear n0_ n1_ n2_
                            (try clear hb)
                            (try clear hb2)
                            (try clear hk)
                            (try clear hi)
                            refine hK.out _ _ ⟨(blk_cell BK257.out 0).trans rfl, (blk_cell BK257.out 1).trans rfl, (blk_cell BK257.out 2).trans rfl⟩ (fun hHeld => ?_)
                            clear hK K
                            refine norm_ (a' := ?_) ?_ ?_
                            rotate_left
                            · show Act.put _ (some 48) _ = _
                              simp only [Act.put, List.setIfInBounds_toArray, List.set_cons_zero, List.set_cons_succ, i64_w, i32_w]
                              rfl
                            refine pure_ (i := 5) (N := some 49) (v := ?_) (a' := ?_) #[true, true, true, true, true, true, false, true, true, false, false, false, true, true, false, false, false, true, false, false, false, false] rfl rfl (any_of HT_.out (by kernel_rfl)) (fun _ _ _ h => h) (Or.inl ⟨by rfl, ?_⟩) ?_ ?_
                            rotate_left
                            · intro w'
                              go_simp
                              with_reducible rfl
                            rotate_left
                            · simp only [Act.put, List.setIfInBounds_toArray, List.set_cons_zero, List.set_cons_succ, i64_w, i32_w]
                              rfl
                            refine pure_ (i := 6) (N := some 50) (v := ?_) (a' := ?_) #[true, true, true, true, true, true, true, true, true, false, false, false, true, true, false, false, false, true, false, false, false, false] rfl rfl (any_of HT_.out (by kernel_rfl)) (fun _ _ _ h => h) (Or.inl ⟨by rfl, ?_⟩) ?_ ?_
                            rotate_left
                            · intro w'
                              go_simp
                              with_reducible rfl
                            rotate_left
                            · simp only [Act.put, List.setIfInBounds_toArray, List.set_cons_zero, List.set_cons_succ, i64_w, i32_w]
                              rfl
                            refine one_ (i := 9) (N := some 53) #[true, true, true, true, true, true, true, true, true, true, false, false, true, true, false, false, false, true, false, false, false, false] rfl rfl (one_of HT_.out (by kernel_rfl)) (by decide) (fun K hK => ?_)
                            refine goes_ Tryz.func100 (by kernel_rfl) rfl #[.int .i64 t254, .int .i64 2] (by rfl) rfl rfl (by (try simp only [List.map_toArray, List.map_cons, List.map_nil]); first | done | rfl | (simp only [List.length_drop, List.length_take]; rfl)) ?_
                            with_reducible refine (daytime_digits.calls t254 2 t269 _ (by first | exact Laid.below HL.out (by repeat (first | (with_reducible first | exact HB.out | apply below_alloc | apply pw_below_drewN | apply below_drew1 | refine below_set ?_ (Aside0.out (by assumption))) | exact HB.out))) A17.out).mono ?_
                            rintro e w32 ⟨rfl, hb⟩
                            refine ⟨_, rfl, ?_⟩
                            have n0_ := Aside0.mk (blk_below (g := gb257) (o := .cells #[.int .i64 t253, .int .i64 t254, .int .i64 t255] 50 (0, 0)) (by (with_reducible repeat (first | refine blk_drewN ?_ _ | refine blk_drew ?_ | refine blk_alloc ?_ _)); exact BK257.out) hb)
                            have n1_ := Aside0.mk (blk_below (g := gb263) (o := .cells #[.int .i64 t259, .int .i64 t260, .int .i64 t261] 26 (0, 0)) (by (with_reducible repeat (first | refine blk_drewN ?_ _ | refine blk_drew ?_ | refine blk_alloc ?_ _)); exact BK263.out) hb)
                            have n2_ := Aside0.mk (below_step (by repeat (first | (with_reducible first | exact HB.out | apply below_alloc | apply pw_below_drewN | apply below_drew1 | refine below_set ?_ GE257.out | refine below_set ?_ GE263.out) | exact HB.out)) hb)
                            clear BK257
                            clear BK263
                            clear HB
                            have BK257 := n0_
                            have BK263 := n1_
                            have HB := n2_
                            clear n0_ n1_ n2_
                            (try clear hb)
                            (try clear hb2)
                            (try clear hk)
                            (try clear hi)
                            refine hK.out _ _ ⟨(blk_cell BK257.out 0).trans rfl, (blk_cell BK257.out 1).trans rfl, (blk_cell BK257.out 2).trans rfl⟩ (fun hHeld => ?_)
                            clear hK K
                            refine norm_ (a' := ?_) ?_ ?_
                            rotate_left
                            · show Act.put _ (some 53) _ = _
                              simp only [Act.put, List.setIfInBounds_toArray, List.set_cons_zero, List.set_cons_succ, i64_w, i32_w]
                              rfl
                            refine pure_ (i := 10) (N := some 54) (v := ?_) (a' := ?_) #[true, true, true, true, true, true, true, true, true, true, true, false, true, true, false, false, false, true, false, false, false, false] rfl rfl (any_of HT_.out (by kernel_rfl)) (fun _ _ _ h => h) (Or.inl ⟨by rfl, ?_⟩) ?_ ?_
                            rotate_left
                            · intro w'
                              go_simp
                              with_reducible rfl
                            rotate_left
                            · simp only [Act.put, List.setIfInBounds_toArray, List.set_cons_zero, List.set_cons_succ, i64_w, i32_w]
                              rfl
                            refine pure_ (i := 11) (N := some 55) (v := ?_) (a' := ?_) #[true, true, true, true, true, true, true, true, true, true, true, true, true, true, false, false, false, true, false, false, false, false] rfl rfl (any_of HT_.out (by kernel_rfl)) (fun _ _ _ h => h) (Or.inl ⟨by rfl, ?_⟩) ?_ ?_
                            rotate_left
                            · intro w'
                              go_simp
                              with_reducible rfl
                            rotate_left
                            · simp only [Act.put, List.setIfInBounds_toArray, List.set_cons_zero, List.set_cons_succ, i64_w, i32_w]
                              rfl
                            refine one_ (i := 14) (N := some 58) #[true, true, true, true, true, true, true, true, true, true, true, true, true, true, true, false, false, true, false, false, false, false] rfl rfl (one_of HT_.out (by kernel_rfl)) (by decide) (fun K hK => ?_)
                            refine goes_ Tryz.func100 (by kernel_rfl) rfl #[.int .i64 t255, .int .i64 2] (by rfl) rfl rfl (by (try simp only [List.map_toArray, List.map_cons, List.map_nil]); first | done | rfl | (simp only [List.length_drop, List.length_take]; rfl)) ?_
                            with_reducible refine (daytime_digits.calls t255 2 t270 _ (by first | exact Laid.below HL.out (by repeat (first | (with_reducible first | exact HB.out | apply below_alloc | apply pw_below_drewN | apply below_drew1 | refine below_set ?_ (Aside0.out (by assumption))) | exact HB.out))) A20.out).mono ?_
                            rintro e w33 ⟨rfl, hb⟩
                            refine ⟨_, rfl, ?_⟩
                            have n0_ := Aside0.mk (blk_below (g := gb257) (o := .cells #[.int .i64 t253, .int .i64 t254, .int .i64 t255] 50 (0, 0)) (by (with_reducible repeat (first | refine blk_drewN ?_ _ | refine blk_drew ?_ | refine blk_alloc ?_ _)); exact BK257.out) hb)
                            have n1_ := Aside0.mk (blk_below (g := gb263) (o := .cells #[.int .i64 t259, .int .i64 t260, .int .i64 t261] 26 (0, 0)) (by (with_reducible repeat (first | refine blk_drewN ?_ _ | refine blk_drew ?_ | refine blk_alloc ?_ _)); exact BK263.out) hb)
                            have n2_ := Aside0.mk (below_step (by repeat (first | (with_reducible first | exact HB.out | apply below_alloc | apply pw_below_drewN | apply below_drew1 | refine below_set ?_ GE257.out | refine below_set ?_ GE263.out) | exact HB.out)) hb)
                            clear BK257
                            clear BK263
                            clear HB
                            have BK257 := n0_
                            have BK263 := n1_
                            have HB := n2_
                            clear n0_ n1_ n2_
                            (try clear hb)
                            (try clear hb2)
                            (try clear hk)
                            (try clear hi)
                            refine hK.out _ _ ⟨(blk_cell BK257.out 0).trans rfl, (blk_cell BK257.out 1).trans rfl, (blk_cell BK257.out 2).trans rfl⟩ (fun hHeld => ?_)
                            clear hK K
                            refine norm_ (a' := ?_) ?_ ?_
                            rotate_left
                            · show Act.put _ (some 58) _ = _
                              simp only [Act.put, List.setIfInBounds_toArray, List.set_cons_zero, List.set_cons_succ, i64_w, i32_w]
                              rfl
                            refine pure_ (i := 15) (N := some 59) (v := ?_) (a' := ?_) #[true, true, true, true, true, true, true, true, true, true, true, true, true, true, true, true, false, true, false, false, false, false] rfl rfl (any_of HT_.out (by kernel_rfl)) (fun _ _ _ h => h) (Or.inl ⟨by rfl, ?_⟩) ?_ ?_
                            rotate_left
                            · intro w'
                              go_simp
                              with_reducible rfl
                            rotate_left
                            · simp only [Act.put, List.setIfInBounds_toArray, List.set_cons_zero, List.set_cons_succ, i64_w, i32_w]
                              rfl
                            refine pure_ (i := 16) (N := some 60) (v := ?_) (a' := ?_) #[true, true, true, true, true, true, true, true, true, true, true, true, true, true, true, true, true, true, false, false, false, false] rfl rfl (any_of HT_.out (by kernel_rfl)) (fun _ _ _ h => h) (Or.inl ⟨by rfl, ?_⟩) ?_ ?_
                            rotate_left
                            · intro w'
                              go_simp
                              with_reducible rfl
                            rotate_left
                            · simp only [Act.put, List.setIfInBounds_toArray, List.set_cons_zero, List.set_cons_succ, i64_w, i32_w]
                              rfl
                            refine one_ (i := 18) (N := some 62) #[true, true, true, true, true, true, true, true, true, true, true, true, true, true, true, true, true, true, true, false, false, false] rfl rfl (one_of HT_.out (by kernel_rfl)) (by decide) (fun K hK => ?_)
                            refine goes_ Tryz.func100 (by kernel_rfl) rfl #[.int .i64 a2, .int .i64 9] (by rfl) rfl rfl (by (try simp only [List.map_toArray, List.map_cons, List.map_nil]); first | done | rfl | (simp only [List.length_drop, List.length_take]; rfl)) ?_
                            with_reducible refine (daytime_digits.calls a2 9 t271 _ (by first | exact Laid.below HL.out (by repeat (first | (with_reducible first | exact HB.out | apply below_alloc | apply pw_below_drewN | apply below_drew1 | refine below_set ?_ (Aside0.out (by assumption))) | exact HB.out))) A23.out).mono ?_
                            rintro e w34 ⟨rfl, hb⟩
                            refine ⟨_, rfl, ?_⟩
                            have n0_ := Aside0.mk (blk_below (g := gb257) (o := .cells #[.int .i64 t253, .int .i64 t254, .int .i64 t255] 50 (0, 0)) (by (with_reducible repeat (first | refine blk_drewN ?_ _ | refine blk_drew ?_ | refine blk_alloc ?_ _)); exact BK257.out) hb)
                            have n1_ := Aside0.mk (blk_below (g := gb263) (o := .cells #[.int .i64 t259, .int .i64 t260, .int .i64 t261] 26 (0, 0)) (by (with_reducible repeat (first | refine blk_drewN ?_ _ | refine blk_drew ?_ | refine blk_alloc ?_ _)); exact BK263.out) hb)
                            have n2_ := Aside0.mk (below_step (by repeat (first | (with_reducible first | exact HB.out | apply below_alloc | apply pw_below_drewN | apply below_drew1 | refine below_set ?_ GE257.out | refine below_set ?_ GE263.out) | exact HB.out)) hb)
                            clear BK257
                            clear BK263
                            clear HB
                            have BK257 := n0_
                            have BK263 := n1_
                            have HB := n2_
                            clear n0_ n1_ n2_
                            (try clear hb)
                            (try clear hb2)
                            (try clear hk)
                            (try clear hi)
                            refine hK.out _ _ ⟨(blk_cell BK257.out 0).trans rfl, (blk_cell BK257.out 1).trans rfl, (blk_cell BK257.out 2).trans rfl⟩ (fun hHeld => ?_)
                            clear hK K
                            refine norm_ (a' := ?_) ?_ ?_
                            rotate_left
                            · show Act.put _ (some 62) _ = _
                              simp only [Act.put, List.setIfInBounds_toArray, List.set_cons_zero, List.set_cons_succ, i64_w, i32_w]
                              rfl
                            refine pure_ (i := 19) (N := some 63) (v := ?_) (a' := ?_) #[true, true, true, true, true, true, true, true, true, true, true, true, true, true, true, true, true, true, true, true, false, false] rfl rfl (any_of HT_.out (by kernel_rfl)) (fun _ _ _ h => h) (Or.inl ⟨by rfl, ?_⟩) ?_ ?_
                            rotate_left
                            · intro w'
                              go_simp
                              with_reducible rfl
                            rotate_left
                            · simp only [Act.put, List.setIfInBounds_toArray, List.set_cons_zero, List.set_cons_succ, i64_w, i32_w]
                              rfl
                            refine pure_ (i := 20) (N := some 6) (v := ?_) (a' := ?_) #[true, true, true, true, true, true, true, true, true, true, true, true, true, true, true, true, true, true, true, true, true, false] rfl rfl (any_of HT_.out (by kernel_rfl)) (fun _ _ _ h => h) (Or.inl ⟨by rfl, ?_⟩) ?_ ?_
                            rotate_left
                            · intro w'
                              go_simp
                              with_reducible rfl
                            rotate_left
                            · simp only [Act.put, List.setIfInBounds_toArray, List.set_cons_zero, List.set_cons_succ, i64_w, i32_w]
                              rfl
                            refine pure_ (i := 21) (N := some 7) (v := ?_) (a' := ?_) #[true, true, true, true, true, true, true, true, true, true, true, true, true, true, true, true, true, true, true, true, true, true] rfl rfl (any_of HT_.out (by kernel_rfl)) (fun _ _ _ h => h) (Or.inl ⟨by rfl, ?_⟩) ?_ ?_
                            rotate_left
                            · intro w'
                              go_simp
                              with_reducible rfl
                            rotate_left
                            · simp only [Act.put, List.setIfInBounds_toArray, List.set_cons_zero, List.set_cons_succ, i64_w, i32_w]
                              rfl
                            refine done_ (done_of HT_.out (by kernel_rfl)) ?_
                            try go_wp2
                            go_ret2
                            exact ⟨by first | rfl | (simp [errW_none, errW_some] <;> rfl) | (simp [*, errW_none, errW_some] <;> rfl), by repeat (first | (with_reducible first | exact HB.out | apply below_alloc | apply pw_below_drewN | apply below_drew1 | refine below_set ?_ GE257.out | refine below_set ?_ GE263.out) | exact HB.out)⟩
                          · rw [if_neg c24] at H
                            exact absurd H (by simp)
                        · rw [if_neg c22] at H
                          exact absurd H (by simp)
                      · rw [if_neg c21] at H
                        exact absurd H (by simp)
                    · rw [if_neg c19] at H
                      exact absurd H (by simp)
                  · rw [if_neg c18] at H
                    exact absurd H (by simp)
                · rw [if_neg c16] at H
                  exact absurd H (by simp)
              · rw [if_neg c15] at H
                exact absurd H (by simp)
            · rw [if_neg c13] at H
              exact absurd H (by simp)
          · have H1 : (some ((⟨#[]⟩ : ByteArray), some q267)) = some (r1, r2) := by rw [if_neg (show ¬ (some q267).isNone = true by simp)] at H; exact H
            clear H
            have H := H1
            clear H1
            try simp only [errW_none, errW_some]
            simp only [Option.some.injEq, Prod.mk.injEq] at H
            obtain ⟨rfl, rfl⟩ := H
            go_wp2_with (first | ((with_reducible refine gate_callee (f := 17) rfl ?_); refine goesL_ (some 30) rfl rfl Tryz.func17 (by kernel_rfl) rfl #[.int .i64 a0] rfl (by (try simp only [List.map_toArray, List.map_cons, List.map_nil]); first | done | rfl | (simp only [List.length_drop, List.length_take]; rfl)) ?_; (with_reducible refine (civil_Of.calls kj4 a0 t259 t260 t261 none _ A11.out).mono ?_); rintro e w35 ⟨rfl, hb⟩; refine ⟨_, rfl, ?_⟩; have n0_ := Aside0.mk (blk_below (g := gb257) (o := .cells #[.int .i64 t253, .int .i64 t254, .int .i64 t255] 50 (0, 0)) (by (with_reducible repeat (first | refine blk_drewN ?_ _ | refine blk_drew ?_ | refine blk_alloc ?_ _)); exact BK257.out) hb); have n1_ := Aside0.mk (below_step (by repeat (first | (with_reducible first | exact HB.out | apply below_alloc | apply pw_below_drewN | apply below_drew1 | refine below_set ?_ GE257.out) | exact HB.out)) hb); clear BK257; clear HB; have BK257 := n0_; have HB := n1_; clear n0_ n1_; (try clear hb); (try clear hb2); (try clear hk); (try clear hi); (try simp only [errW_none, errW_some])) | ((with_reducible refine gate_dst (N := 10) rfl ?_); refine box_event ?hg (N := 10) ?hd (cs := #[.int .i64 0, .int .i64 0, .int .i64 0]) (t := 26) ?hr ?_; (case hd => rfl); (case hg => rfl); (case hr => first | (go_simp; done) | (go_simp; rfl)); intro gb263 hg w36 hbox hb; have n0_ := Aside0.mk (blk_below (g := gb257) (o := .cells #[.int .i64 t253, .int .i64 t254, .int .i64 t255] 50 (0, 0)) (by (with_reducible repeat (first | refine blk_drewN ?_ _ | refine blk_drew ?_ | refine blk_alloc ?_ _)); exact BK257.out) hb); have n1_ := Aside0.mk (below_step (by repeat (first | (with_reducible first | exact HB.out | apply below_alloc | apply pw_below_drewN | apply below_drew1 | refine below_set ?_ GE257.out) | exact HB.out)) hb); have n2_ := Aside0.mk (hbox); have n3_ := Aside0.mk ((by rw [hg]; exact (below_size (by repeat (first | (with_reducible first | exact HB.out | apply below_alloc | apply pw_below_drewN | apply below_drew1 | refine below_set ?_ GE257.out) | exact HB.out))) : w.heap.size ≤ gb263)); have n4_ := Aside0.mk ((by rw [hg]; exact (below_size (by repeat (first | (with_reducible first | exact HB.out | apply below_alloc | apply pw_below_drewN | apply below_drew1 | refine below_set ?_ GE257.out) | exact HB.out))) : w.heap.size ≤ gb263)); have n5_ := Aside0.mk ((by rw [hg]; exact Nat.ne_of_lt (blk_lt (g := gb257) (o := .cells #[.int .i64 t253, .int .i64 t254, .int .i64 t255] 50 (0, 0)) (by (with_reducible repeat (first | refine blk_drewN ?_ _ | refine blk_drew ?_ | refine blk_alloc ?_ _)); exact BK257.out)) : gb257 ≠ gb263)); have n6_ := Aside0.mk ((by rw [hg]; exact Nat.ne_of_gt (blk_lt (g := gb257) (o := .cells #[.int .i64 t253, .int .i64 t254, .int .i64 t255] 50 (0, 0)) (by (with_reducible repeat (first | refine blk_drewN ?_ _ | refine blk_drew ?_ | refine blk_alloc ?_ _)); exact BK257.out)) : gb263 ≠ gb257)); clear BK257; clear HB; have BK257 := n0_; have HB := n1_; have BK263 := n2_; have GW263 := n3_; have GE263 := n4_; have NB257_263 := n5_; have NB263_257 := n6_; clear n0_ n1_ n2_ n3_ n4_ n5_ n6_; clear hb hbox hg; have hnb37 := NB263_257.out; have hnc37 := NB257_263.out; have hcz38_0 : w36.cell? ⟨gb263, 0, none⟩ = some (.int .i64 0) := (blk_cell BK263.out 0).trans rfl; have hcz38_1 : w36.cell? ⟨gb263, 1, none⟩ = some (.int .i64 0) := (blk_cell BK263.out 1).trans rfl; have hcz38_2 : w36.cell? ⟨gb263, 2, none⟩ = some (.int .i64 0) := (blk_cell BK263.out 2).trans rfl; have hfz38_0 := blk_frozen BK263.out 0; have hfz38_1 := blk_frozen BK263.out 1; have hfz38_2 := blk_frozen BK263.out 2) | ((with_reducible refine gate_callee (f := 26) rfl ?_); refine goesL_ (some 38) rfl rfl Tryz.func26 (by kernel_rfl) rfl #[.agg #[.int .i64 t259, .int .i64 t260, .int .i64 t261]] rfl (by (try simp only [List.map_toArray, List.map_cons, List.map_nil]); first | done | rfl | (simp only [List.length_drop, List.length_take]; rfl)) ?_; (with_reducible refine (civil_Text.calls kj4 t259 t260 t261 t265 (some q267) _ (by first | exact Laid.below HL.out (by repeat (first | (with_reducible first | exact HB.out | apply below_alloc | apply pw_below_drewN | apply below_drew1 | refine below_set ?_ (Aside0.out (by assumption))) | exact HB.out))) A12.out).mono ?_); rintro e w39 ⟨rfl, hb⟩; refine ⟨_, rfl, ?_⟩; have n0_ := Aside0.mk (blk_below (g := gb257) (o := .cells #[.int .i64 t253, .int .i64 t254, .int .i64 t255] 50 (0, 0)) (by (with_reducible repeat (first | refine blk_drewN ?_ _ | refine blk_drew ?_ | refine blk_alloc ?_ _)); refine blk_far ?_ NB257_263.out _; (with_reducible repeat (first | refine blk_drewN ?_ _ | refine blk_drew ?_ | refine blk_alloc ?_ _)); refine blk_far ?_ NB257_263.out _; (with_reducible repeat (first | refine blk_drewN ?_ _ | refine blk_drew ?_ | refine blk_alloc ?_ _)); refine blk_far ?_ NB257_263.out _; (with_reducible repeat (first | refine blk_drewN ?_ _ | refine blk_drew ?_ | refine blk_alloc ?_ _)); exact BK257.out) hb); have n1_ := Aside0.mk (blk_below (g := gb263) (o := .cells #[.int .i64 t259, .int .i64 t260, .int .i64 t261] 26 (0, 0)) (by (with_reducible repeat (first | refine blk_drewN ?_ _ | refine blk_drew ?_ | refine blk_alloc ?_ _)); refine blk_put (cs := #[.int .i64 t259, .int .i64 t260, .int .i64 0]) ?_ 2 _ rfl; (with_reducible repeat (first | refine blk_drewN ?_ _ | refine blk_drew ?_ | refine blk_alloc ?_ _)); refine blk_put (cs := #[.int .i64 t259, .int .i64 0, .int .i64 0]) ?_ 1 _ rfl; (with_reducible repeat (first | refine blk_drewN ?_ _ | refine blk_drew ?_ | refine blk_alloc ?_ _)); refine blk_put (cs := #[.int .i64 0, .int .i64 0, .int .i64 0]) ?_ 0 _ rfl; (with_reducible repeat (first | refine blk_drewN ?_ _ | refine blk_drew ?_ | refine blk_alloc ?_ _)); exact BK263.out) hb); have n2_ := Aside0.mk (below_step (by repeat (first | (with_reducible first | exact HB.out | apply below_alloc | apply pw_below_drewN | apply below_drew1 | refine below_set ?_ GE257.out | refine below_set ?_ GE263.out) | exact HB.out)) hb); clear BK257; clear BK263; clear HB; have BK257 := n0_; have BK263 := n1_; have HB := n2_; clear n0_ n1_ n2_; (try clear hb); (try clear hb2); (try clear hk); (try clear hi); (try simp only [errW_none, errW_some])))
            go_ret2
            exact ⟨by first | rfl | (simp [errW_none, errW_some] <;> rfl) | (simp [*, errW_none, errW_some] <;> rfl), by repeat (first | (with_reducible first | exact HB.out | apply below_alloc | apply pw_below_drewN | apply below_drew1 | refine below_set ?_ GE257.out | refine below_set ?_ GE263.out) | exact HB.out)⟩
        · have H1 : (some ((⟨#[]⟩ : ByteArray), some q264)) = some (r1, r2) := by rw [if_neg (show ¬ (some q264).isNone = true by simp)] at H; exact H
          clear H
          have H := H1
          clear H1
          try simp only [errW_none, errW_some]
          simp only [Option.some.injEq, Prod.mk.injEq] at H
          obtain ⟨rfl, rfl⟩ := H
          go_wp2_with (first | ((with_reducible refine gate_callee (f := 17) rfl ?_); refine goesL_ (some 30) rfl rfl Tryz.func17 (by kernel_rfl) rfl #[.int .i64 a0] rfl (by (try simp only [List.map_toArray, List.map_cons, List.map_nil]); first | done | rfl | (simp only [List.length_drop, List.length_take]; rfl)) ?_; (with_reducible refine (civil_Of.calls kj4 a0 t259 t260 t261 (some q264) _ A11.out).mono ?_); rintro e w40 ⟨rfl, hb⟩; refine ⟨_, rfl, ?_⟩; have n0_ := Aside0.mk (blk_below (g := gb257) (o := .cells #[.int .i64 t253, .int .i64 t254, .int .i64 t255] 50 (0, 0)) (by (with_reducible repeat (first | refine blk_drewN ?_ _ | refine blk_drew ?_ | refine blk_alloc ?_ _)); exact BK257.out) hb); have n1_ := Aside0.mk (below_step (by repeat (first | (with_reducible first | exact HB.out | apply below_alloc | apply pw_below_drewN | apply below_drew1 | refine below_set ?_ GE257.out) | exact HB.out)) hb); clear BK257; clear HB; have BK257 := n0_; have HB := n1_; clear n0_ n1_; (try clear hb); (try clear hb2); (try clear hk); (try clear hi); (try simp only [errW_none, errW_some])) | ((with_reducible refine gate_dst (N := 10) rfl ?_); refine box_event ?hg (N := 10) ?hd (cs := #[.int .i64 0, .int .i64 0, .int .i64 0]) (t := 26) ?hr ?_; (case hd => rfl); (case hg => rfl); (case hr => first | (go_simp; done) | (go_simp; rfl)); intro gb263 hg w41 hbox hb; have n0_ := Aside0.mk (blk_below (g := gb257) (o := .cells #[.int .i64 t253, .int .i64 t254, .int .i64 t255] 50 (0, 0)) (by (with_reducible repeat (first | refine blk_drewN ?_ _ | refine blk_drew ?_ | refine blk_alloc ?_ _)); exact BK257.out) hb); have n1_ := Aside0.mk (below_step (by repeat (first | (with_reducible first | exact HB.out | apply below_alloc | apply pw_below_drewN | apply below_drew1 | refine below_set ?_ GE257.out) | exact HB.out)) hb); have n2_ := Aside0.mk (hbox); have n3_ := Aside0.mk ((by rw [hg]; exact (below_size (by repeat (first | (with_reducible first | exact HB.out | apply below_alloc | apply pw_below_drewN | apply below_drew1 | refine below_set ?_ GE257.out) | exact HB.out))) : w.heap.size ≤ gb263)); have n4_ := Aside0.mk ((by rw [hg]; exact (below_size (by repeat (first | (with_reducible first | exact HB.out | apply below_alloc | apply pw_below_drewN | apply below_drew1 | refine below_set ?_ GE257.out) | exact HB.out))) : w.heap.size ≤ gb263)); have n5_ := Aside0.mk ((by rw [hg]; exact Nat.ne_of_lt (blk_lt (g := gb257) (o := .cells #[.int .i64 t253, .int .i64 t254, .int .i64 t255] 50 (0, 0)) (by (with_reducible repeat (first | refine blk_drewN ?_ _ | refine blk_drew ?_ | refine blk_alloc ?_ _)); exact BK257.out)) : gb257 ≠ gb263)); have n6_ := Aside0.mk ((by rw [hg]; exact Nat.ne_of_gt (blk_lt (g := gb257) (o := .cells #[.int .i64 t253, .int .i64 t254, .int .i64 t255] 50 (0, 0)) (by (with_reducible repeat (first | refine blk_drewN ?_ _ | refine blk_drew ?_ | refine blk_alloc ?_ _)); exact BK257.out)) : gb263 ≠ gb257)); clear BK257; clear HB; have BK257 := n0_; have HB := n1_; have BK263 := n2_; have GW263 := n3_; have GE263 := n4_; have NB257_263 := n5_; have NB263_257 := n6_; clear n0_ n1_ n2_ n3_ n4_ n5_ n6_; clear hb hbox hg; have hnb42 := NB263_257.out; have hnc42 := NB257_263.out; have hcz43_0 : w41.cell? ⟨gb263, 0, none⟩ = some (.int .i64 0) := (blk_cell BK263.out 0).trans rfl; have hcz43_1 : w41.cell? ⟨gb263, 1, none⟩ = some (.int .i64 0) := (blk_cell BK263.out 1).trans rfl; have hcz43_2 : w41.cell? ⟨gb263, 2, none⟩ = some (.int .i64 0) := (blk_cell BK263.out 2).trans rfl; have hfz43_0 := blk_frozen BK263.out 0; have hfz43_1 := blk_frozen BK263.out 1; have hfz43_2 := blk_frozen BK263.out 2))
          go_ret2
          exact ⟨by first | rfl | (simp [errW_none, errW_some] <;> rfl) | (simp [*, errW_none, errW_some] <;> rfl), by repeat (first | (with_reducible first | exact HB.out | apply below_alloc | apply pw_below_drewN | apply below_drew1 | refine below_set ?_ GE257.out | refine below_set ?_ GE263.out) | exact HB.out)⟩

end Go.Proofs.YtfjifhkgifefeaaGreatDoor.PA
end

section
/- Contracts of Go's library, laid at this program by the kit's shelf: those that were laid later. -/
namespace Go.Proofs
open Go.Shelf
def Tryz.laysC174_ren : Go.Shelf.Ren := ⟨fun | 174 => 113 | 247 => 169 | 245 => 164 | 287 => 208 | 279 => 199 | 280 => 200 | 281 => 201 | 282 => 202 | 321 => 236 | 322 => 237 | 316 => 229 | 171 => 161 | 205 => 230 | 243 => 195 | 246 => 170 | 283 => 209 | 284 => 210 | 285 => 211 | 286 => 212 | 129 => 239 | 317 => 238 | 318 => 240 | 319 => 241 | 320 => 242 | 337 => 246 | 338 => 247 | n => n, fun | 9 => 9 | 3 => 3 | 2 => 2 | 75 => 28 | 85 => 29 | 4 => 4 | 167 => 275 | 5 => 5 | 53 => 282 | 175 => 283 | 46 => 191 | 168 => 276 | 37 => 82 | 0 => 0 | 210 => 298 | 21 => 21 | 127 => 240 | 145 => 309 | 143 => 307 | 171 => 285 | 173 => 288 | 212 => 303 | 51 => 132 | 20 => 20 | 213 => 304 | 232 => 316 | 233 => 317 | 80 => 184 | n => n, fun | 15 => 1 | 16 => 2 | 17 => 4 | 18 => 7 | 19 => 8 | n => n⟩
theorem Tryz.laysC174 : Go.Proofs.LaysC.n174 Tryz.prog Tryz.laysC174_ren := {
  mixed := by kernel_rfl
  f129 := Tryz.func239.trans (congrArg some (by kernel_rfl))
  f171 := Tryz.func161.trans (congrArg some (by kernel_rfl))
  f174 := Tryz.func113.trans (congrArg some (by kernel_rfl))
  f205 := Tryz.func230.trans (congrArg some (by kernel_rfl))
  f243 := Tryz.func195.trans (congrArg some (by kernel_rfl))
  f245 := Tryz.func164.trans (congrArg some (by kernel_rfl))
  f246 := Tryz.func170.trans (congrArg some (by kernel_rfl))
  f247 := Tryz.func169.trans (congrArg some (by kernel_rfl))
  f279 := Tryz.func199.trans (congrArg some (by kernel_rfl))
  f280 := Tryz.func200.trans (congrArg some (by kernel_rfl))
  f281 := Tryz.func201.trans (congrArg some (by kernel_rfl))
  f282 := Tryz.func202.trans (congrArg some (by kernel_rfl))
  f283 := Tryz.func209.trans (congrArg some (by kernel_rfl))
  f284 := Tryz.func210.trans (congrArg some (by kernel_rfl))
  f285 := Tryz.func211.trans (congrArg some (by kernel_rfl))
  f286 := Tryz.func212.trans (congrArg some (by kernel_rfl))
  f287 := Tryz.func208.trans (congrArg some (by kernel_rfl))
  f316 := Tryz.func229.trans (congrArg some (by kernel_rfl))
  f317 := Tryz.func238.trans (congrArg some (by kernel_rfl))
  f318 := Tryz.func240.trans (congrArg some (by kernel_rfl))
  f319 := Tryz.func241.trans (congrArg some (by kernel_rfl))
  f320 := Tryz.func242.trans (congrArg some (by kernel_rfl))
  f321 := Tryz.func236.trans (congrArg some (by kernel_rfl))
  f322 := Tryz.func237.trans (congrArg some (by kernel_rfl))
  f337 := Tryz.func246.trans (congrArg some (by kernel_rfl))
  f338 := Tryz.func247.trans (congrArg some (by kernel_rfl))
  t0 := Tryz.underlying0
  a0 := Tryz.isAgg0
  z0 := Tryz.sizeOf0
  v0 := Tryz.zeroValue0
  t2 := Tryz.underlying2
  a2 := Tryz.isAgg2
  z2 := Tryz.sizeOf2
  v2 := Tryz.zeroValue2
  t3 := Tryz.underlying3
  a3 := Tryz.isAgg3
  z3 := Tryz.sizeOf3
  v3 := Tryz.zeroValue3
  t4 := Tryz.underlying4
  a4 := Tryz.isAgg4
  z4 := Tryz.sizeOf4
  v4 := Tryz.zeroValue4
  t5 := Tryz.underlying5
  a5 := Tryz.isAgg5
  z5 := Tryz.sizeOf5
  v5 := Tryz.zeroValue5
  t9 := Tryz.underlying9
  a9 := Tryz.isAgg9
  z9 := Tryz.sizeOf9
  v9 := Tryz.zeroValue9
  t20 := Tryz.underlying20
  a20 := Tryz.isAgg20
  z20 := Tryz.sizeOf20
  v20 := Tryz.zeroValue20
  t21 := Tryz.underlying21
  a21 := Tryz.isAgg21
  z21 := Tryz.sizeOf21
  v21 := Tryz.zeroValue21
  t37 := Tryz.underlying82
  a37 := Tryz.isAgg82
  z37 := Tryz.sizeOf82
  v37 := Tryz.zeroValue82
  t46 := Tryz.underlying191
  a46 := Tryz.isAgg191
  z46 := Tryz.sizeOf191
  v46 := Tryz.zeroValue191
  t51 := Tryz.underlying132
  a51 := Tryz.isAgg132
  z51 := Tryz.sizeOf132
  v51 := Tryz.zeroValue132
  t53 := Tryz.underlying282
  a53 := Tryz.isAgg282
  z53 := Tryz.sizeOf282
  v53 := Tryz.zeroValue282
  t75 := Tryz.underlying28
  a75 := Tryz.isAgg28
  z75 := Tryz.sizeOf28
  v75 := Tryz.zeroValue28
  t85 := Tryz.underlying29
  a85 := Tryz.isAgg29
  z85 := Tryz.sizeOf29
  v85 := Tryz.zeroValue29
  t127 := Tryz.underlying240
  a127 := Tryz.isAgg240
  z127 := Tryz.sizeOf240
  v127 := Tryz.zeroValue240
  t143 := Tryz.underlying307
  a143 := Tryz.isAgg307
  z143 := Tryz.sizeOf307
  v143 := Tryz.zeroValue307
  t145 := Tryz.underlying309
  a145 := Tryz.isAgg309
  z145 := Tryz.sizeOf309
  v145 := Tryz.zeroValue309
  t167 := Tryz.underlying275
  a167 := Tryz.isAgg275
  z167 := Tryz.sizeOf275
  v167 := Tryz.zeroValue275
  t168 := Tryz.underlying276
  a168 := Tryz.isAgg276
  z168 := Tryz.sizeOf276
  v168 := Tryz.zeroValue276
  t171 := Tryz.underlying285
  a171 := Tryz.isAgg285
  z171 := Tryz.sizeOf285
  v171 := Tryz.zeroValue285
  t173 := Tryz.underlying288
  a173 := Tryz.isAgg288
  z173 := Tryz.sizeOf288
  v173 := Tryz.zeroValue288
  t175 := Tryz.underlying283
  a175 := Tryz.isAgg283
  z175 := Tryz.sizeOf283
  v175 := Tryz.zeroValue283
  t210 := Tryz.underlying298
  a210 := Tryz.isAgg298
  z210 := Tryz.sizeOf298
  v210 := Tryz.zeroValue298
  t212 := Tryz.underlying303
  a212 := Tryz.isAgg303
  z212 := Tryz.sizeOf303
  v212 := Tryz.zeroValue303
  t213 := Tryz.underlying304
  a213 := Tryz.isAgg304
  z213 := Tryz.sizeOf304
  t232 := Tryz.underlying316
  a232 := Tryz.isAgg316
  z232 := Tryz.sizeOf316
  v232 := Tryz.zeroValue316
  t233 := Tryz.underlying317
  a233 := Tryz.isAgg317
  z233 := Tryz.sizeOf317
  v233 := Tryz.zeroValue317
  g15 := by kernel_rfl
  g16 := by kernel_rfl
  g17 := by kernel_rfl
  g18 := by kernel_rfl
  g19 := by kernel_rfl
  t80 := Tryz.underlying184
  a80 := Tryz.isAgg184
  z80 := Tryz.sizeOf184
  v80 := Tryz.zeroValue184
  i0 := by kernel_rfl
  i2 := by kernel_rfl
  i3 := by kernel_rfl
  i4 := by kernel_rfl
  i5 := by kernel_rfl
  i9 := by kernel_rfl
  i20 := by kernel_rfl
  i21 := by kernel_rfl
  i37 := by kernel_rfl
  i46 := by kernel_rfl
  i51 := by kernel_rfl
  i53 := by kernel_rfl
  i75 := by kernel_rfl
  i80 := by kernel_rfl
  i85 := by kernel_rfl
  i127 := by kernel_rfl
  i143 := by kernel_rfl
  i145 := by kernel_rfl
  i167 := by kernel_rfl
  i168 := by kernel_rfl
  i171 := by kernel_rfl
  i173 := by kernel_rfl
  i175 := by kernel_rfl
  i210 := by kernel_rfl
  i212 := by kernel_rfl
  i232 := by kernel_rfl
  i233 := by kernel_rfl
  m15 := by kernel_rfl
  m16 := by kernel_rfl
  m17 := by kernel_rfl
  m18 := by kernel_rfl
  m19 := by kernel_rfl
  c0 := by kernel_rfl
  c2 := by kernel_rfl
  c3 := by kernel_rfl
  c4 := by kernel_rfl
  c5 := by kernel_rfl
  c9 := by kernel_rfl
  c20 := by kernel_rfl
  c21 := by kernel_rfl
  c37 := by kernel_rfl
  c46 := by kernel_rfl
  c51 := by kernel_rfl
  c53 := by kernel_rfl
  c75 := by kernel_rfl
  c80 := by kernel_rfl
  c85 := by kernel_rfl
  c127 := by kernel_rfl
  c143 := by kernel_rfl
  c145 := by kernel_rfl
  c167 := by kernel_rfl
  c168 := by kernel_rfl
  c171 := by kernel_rfl
  c173 := by kernel_rfl
  c175 := by kernel_rfl
  c210 := by kernel_rfl
  c212 := by kernel_rfl
  c213 := by kernel_rfl
  c232 := by kernel_rfl
  c233 := by kernel_rfl }
open Go.RowKit in
/-- strconv.ParseInt(s, 10, 64), AT EVERY STRING THAT SPELLS AN int64 ('Lib.parseIntB 64 s.data.toList = .ok v'): v, AND NO ERROR. (LAID: no walk: one application.) -/
theorem Tryz.strconv_ParseInt_10_at64_ok (s : ByteArray) (hmax : s.size ≤ 9223372036854775806) (v : Int) (h : Lib.parseIntB 64 s.data.toList = .ok v) (w : World) :
    Calls Tryz.prog 113 #[.string s, .int .i64 10, .int .i64 64] w fun e w' => e = .returned (.tuple #[.int .i64 v, .nilIface]) ∧ (w' = w ∨ ∃ t, w' = Lib.bytesWorld w 5 t) := Any.strconv_ParseInt_10_at64_ok Tryz.laysC174 s hmax v h w
open Go.RowKit in
/-- strconv.ParseInt(s, 10, 64), AT EVERY NUMERAL THAT NO int64 HOLDS: THE GREATEST OR THE LEAST int64, BY THE SIGN ('Lib.intSat 64'), AND AN ERROR THAT IS NOT nil: a *NumError in a new block N: {Func: "ParseInt", Num: s's bytes, Err: what the variable ErrRange holds}. Of what was there nothing has turned. (LAID: no walk: one application.) -/
theorem Tryz.strconv_ParseInt_10_at64_range (s : ByteArray) (hlim : s.size ≤ 281474976710656) (h : Lib.parseIntB 64 s.data.toList = .range) (ev : Value) (w : World) (hv : w.cell? ⟨2, 0, none⟩ = some ev) (hev : ev = .nilIface ∨ ∃ te pe, ev = .iface te pe) :
    Calls Tryz.prog 113 #[.string s, .int .i64 10, .int .i64 64] w fun e w' => ∃ N, e = .returned (.tuple #[.int .i64 (Lib.intSat 64 s.data.toList), .iface 276 (.pointer (some ⟨N, 0, none⟩))]) ∧ w.heap.size ≤ N ∧ w'.heap[N]? = some (.cells #[.string ⟨#[80, 97, 114, 115, 101, 73, 110, 116]⟩, .string s, ev] 298 (0, 0)) ∧ Below w.heap.size w w' := Any.strconv_ParseInt_10_at64_range Tryz.laysC174 s hlim h ev w hv hev
end Go.Proofs
end

section
/- daytime.number by its contract: the number of a text, -1 where it is none. Its text is walked; strconv.ParseInt by its contracts. -/
namespace Go.Proofs.YtfjifhkgifefeaaGreatDoor.Giv
open Go.RowKit Go.Proofs.YtfjifhkgifefeaaGreatDoor Go.Proofs.YtfjifhkgifefeaaGreatDoorW.PrintWords

theorem pint_ok (p : ByteArray) (hp : p.size ≤ 281474976710656) (v : Int) (h : Lib.atoiAll p.data.toList = .ok v) (w : World) :
    Calls Tryz.prog 113 #[.string p, .int .i64 10, .int .i64 64] w fun e w' => e = .returned (.tuple #[.int .i64 v, .nilIface]) ∧ Below w.heap.size w w' := by
  refine (Tryz.strconv_ParseInt_10_at64_ok p (by omega) v (by rw [Lib.parseIntB_64]; exact h) w).mono ?_
  rintro e w' ⟨rfl, rfl | ⟨t, rfl⟩⟩
  · exact ⟨rfl, Below.refl _ _⟩
  · exact ⟨rfl, Lib.bytesWorld_below _ _ _⟩
theorem pint_bad (p : ByteArray) (hp : p.size ≤ 281474976710656) (h : ∀ v, Lib.atoiAll p.data.toList ≠ .ok v) (w : World) (hl : Laid w) :
    Calls Tryz.prog 113 #[.string p, .int .i64 10, .int .i64 64] w fun e w' => ∃ u N, e = .returned (.tuple #[.int .i64 u, .iface 276 (.pointer (some ⟨N, 0, none⟩))]) ∧ Below w.heap.size w w' := by
  rcases hc : Lib.atoiAll p.data.toList with v | _ | _
  · exact absurd hc (h v)
  · obtain ⟨tp, q, e⟩ := hl.syn
    refine (Any.strconv_ParseInt_10_at64_syntax Tryz.laysC174 p hp (by rw [Lib.parseIntB_64]; exact hc) _ w e (.inr ⟨_, _, rfl⟩)).mono ?_
    rintro e w' ⟨N, rfl, -, -, hb⟩
    exact ⟨_, N, rfl, hb⟩
  · obtain ⟨tp, q, e⟩ := hl.rng
    refine (Tryz.strconv_ParseInt_10_at64_range p hp (by rw [Lib.parseIntB_64]; exact hc) _ w e (.inr ⟨_, _, rfl⟩)).mono ?_
    rintro e w' ⟨N, rfl, -, -, hb⟩
    exact ⟨_, N, rfl, hb⟩
def numberOf (l : List UInt8) : Int := match Lib.atoiAll l with | .ok v => v | _ => -1
def daytime_number.f (a0 : ByteArray) : Option Int := if a0.size ≤ 281474976710656 then some (numberOf a0.data.toList) else none
set_option maxHeartbeats 1000000 in
theorem daytime_number.calls (a0 : ByteArray) (r : Int) (w : World) (hl_ : Laid w) (h : daytime_number.f a0 = some r) :
    Calls Tryz.prog 101 #[.string a0] w fun e w' => e = .returned (.int .i64 r) ∧ Below w.heap.size w w' := by
  unfold daytime_number.f at h
  split at h
  rotate_left
  · cases h
  rename_i hs
  have hr := Option.some.inj h
  clear h
  unfold numberOf at hr
  by_cases c : ∃ v, Lib.atoiAll a0.data.toList = .ok v
  · obtain ⟨v, hv⟩ := c
    rw [hv] at hr
    have hr2 : v = r := hr
    subst hr2
    have H := Lib.hid hv
    clear hv hr
    go_enter Tryz.func101, Tryz.ntmps101
    go_wp2_with (go_at_call 113; (refine (pint_ok a0 hs v H.out _).mono ?_); rintro e w1 ⟨rfl, hb⟩)
    go_ret
    exact ⟨rfl, hb⟩
  · have hr2 : -1 = r := by
      revert hr
      rcases hc : Lib.atoiAll a0.data.toList with v | _ | _
      · exact absurd ⟨v, hc⟩ c
      · exact fun e => e
      · exact fun e => e
    subst hr2
    have H : Hid (∀ v, Lib.atoiAll a0.data.toList ≠ .ok v) := Lib.hid (fun v e => c ⟨v, e⟩)
    have HL := Aside0.mk hl_
    clear hr hl_ c
    go_enter Tryz.func101, Tryz.ntmps101
    go_wp2_with (go_at_call 113; (refine (pint_bad a0 hs H.out _ HL.out).mono ?_); rintro e w1 ⟨u, N, rfl, hb⟩)
    go_ret
    exact ⟨rfl, hb⟩
end Go.Proofs.YtfjifhkgifefeaaGreatDoor.Giv
end

section
/- civil.Parse by its contract: the date of a text, or the error 3. Its text is walked; strings.Split and strconv.Atoi by their contracts. -/
namespace Go.Proofs.YtfjifhkgifefeaaGreatDoor.Giv
open Go.RowKit Go.Proofs.YtfjifhkgifefeaaGreatDoor Go.Proofs.YtfjifhkgifefeaaGreatDoor.StrM Go.Proofs.YtfjifhkgifefeaaGreatDoor.CivM Go.Proofs.YtfjifhkgifefeaaGreatDoor.PA Go.Proofs.YtfjifhkgifefeaaGreatDoorW.PrintWords

theorem atoi_ok (p : ByteArray) (hp : p.size ≤ 4294967280) (v : Int) (h : Lib.atoiAll p.data.toList = .ok v) (w : World) :
    Calls Tryz.prog 97 #[.string p] w fun e w' => e = .returned (.tuple #[.int .i64 v, .nilIface]) ∧ Below w.heap.size w w' := by
  refine (Tryz.strconv_Atoi_ok p (by omega) v h w).mono ?_
  rintro e w' ⟨rfl, rfl | ⟨t, rfl⟩⟩
  · exact ⟨rfl, Below.refl _ _⟩
  · exact ⟨rfl, Lib.bytesWorld_below _ _ _⟩
theorem atoi_bad (p : ByteArray) (hp : p.size ≤ 4294967280) (h : ∀ v, Lib.atoiAll p.data.toList ≠ .ok v) (w : World) (hl : Laid w) :
    Calls Tryz.prog 97 #[.string p] w fun e w' => ∃ u N, e = .returned (.tuple #[.int .i64 u, .iface 276 (.pointer (some ⟨N, 0, none⟩))]) ∧ Below w.heap.size w w' := by
  rcases hc : Lib.atoiAll p.data.toList with v | _ | _
  · exact absurd hc (h v)
  · obtain ⟨tp, q, e⟩ := hl.syn
    refine (Any.strconv_Atoi_syntax Tryz.laysC172 p (by omega) hc _ w e (.inr ⟨_, _, rfl⟩)).mono ?_
    rintro e w' ⟨N, rfl, -, -, hb⟩
    exact ⟨_, N, rfl, hb⟩
  · obtain ⟨tp, q, e⟩ := hl.rng
    refine (Tryz.strconv_Atoi_range p (by omega) hc _ w e (.inr ⟨_, _, rfl⟩)).mono ?_
    rintro e w' ⟨N, rfl, -, -, hb⟩
    exact ⟨_, N, rfl, hb⟩
/-- strings.Split at a byte: the new row, under a letter of its own. -/
theorem split_at (s : ByteArray) (hs : s.size < 4294967281) (l : List ByteArray) (h : Lib.splitB ⟨#[45]⟩ 0 (Lib.countB s ⟨#[45]⟩) s = l) (w : World) (hl : Laid w) :
    Calls Tryz.prog 96 #[.string s, .string ⟨#[45]⟩] w fun e w' => ∃ g, e = .returned (.slice (some ⟨g, 0, none⟩) l.length l.length) ∧ w.heap.size ≤ g ∧ w'.heap[g]? = some (.cells (l.map Value.string).toArray 9 (0, 0)) ∧ Below w.heap.size w w' := by
  refine (Tryz.strings_Split_shaped s ⟨#[45]⟩ w hl.shaped hs (by simp [ByteArray.size])).mono ?_
  rintro e w' ⟨rfl, rfl⟩
  have hc := Lib.splitB_all ⟨#[45]⟩ (by simp [ByteArray.size]) 0 _ s rfl
  rw [h] at hc
  rw [h, ← hc]
  exact ⟨w.heap.size, rfl, Nat.le_refl _, blk_new _ _, (Below.refl _ _).alloc (Nat.le_refl _) _⟩

def civil_Parse.f (a0 : ByteArray) : Option (Int × Int × Int × Option Int) :=
  if a0.size < 4294967281 then some (match dateOf a0.data.toList with | some (y, m, d) => (y, m, d, none) | none => (0, 0, 0, some 3)) else none

def Parsed (B : Nat) (w : World) (y m d : Int) (r : Option Int) (e : Ending) (w' : World) : Prop :=
  e = .returned (.tuple #[.agg #[.int .i64 y, .int .i64 m, .int .i64 d], errW r]) ∧ Below B w w'

theorem split_3 (s : ByteArray) (hs : s.size < 4294967281) (p0 p1 p2 : ByteArray) (h : Lib.splitB ⟨#[45]⟩ 0 (Lib.countB s ⟨#[45]⟩) s = [p0, p1, p2]) (w : World) (hl : Laid w) :
    Calls Tryz.prog 96 #[.string s, .string ⟨#[45]⟩] w fun e w' => ∃ g, e = .returned (.slice (some ⟨g, 0, none⟩) 3 3) ∧ w.heap.size ≤ g ∧ w'.heap[g]? = some (.cells #[.string p0, .string p1, .string p2] 9 (0, 0)) ∧ Below w.heap.size w w' :=
  split_at s hs [p0, p1, p2] h w hl

set_option maxHeartbeats 4000000 in
set_option maxRecDepth 100000 in
theorem parse_len (s : ByteArray) (w : World) (hl : Laid w) (hs : s.size < 4294967281) (l : List ByteArray) (h : Lib.splitB ⟨#[45]⟩ 0 (Lib.countB s ⟨#[45]⟩) s = l) (hn : ((l.length : Int) == 3) = false) :
    Calls Tryz.prog 27 #[.string s] w (Parsed w.heap.size w 0 0 0 (some 3)) := by
  have hn2 : ((l.length : Int) != 3) = true := by simp [bne, hn]
  have H := Lib.hid h
  clear h
  have HB := Aside0.mk (Below.refl w.heap.size w)
  have HL := Aside0.mk hl
  clear hl
  go_enter Tryz.func27, Tryz.ntmps27
  go_wp2_with (go_at_call 96; (refine (split_at s hs l H.out _ (Laid.below HL.out (by repeat (first | (with_reducible first | exact HB.out | apply below_alloc | apply pw_below_drewN | apply below_drew1 | refine below_set ?_ GA.out | refine below_set ?_ (Nat.le_refl _)) | exact HB.out)))).mono ?_); rintro e w1 ⟨g, rfl, hg, hc, hb⟩; have BK := Aside0.mk (blk_below (blk_new w _) hb); have n0_ := Aside0.mk (below_step (below_alloc HB.out _) hb); clear HB; have HB := n0_; clear n0_; clear hb hc hg; have z0 : w1.cell? ⟨w.heap.size, 0, none⟩ = some (.int .i64 0) := (blk_cell BK.out 0).trans rfl; have z1 : w1.cell? ⟨w.heap.size, 1, none⟩ = some (.int .i64 0) := (blk_cell BK.out 1).trans rfl; have z2 : w1.cell? ⟨w.heap.size, 2, none⟩ = some (.int .i64 0) := (blk_cell BK.out 2).trans rfl; have f0 := blk_frozen BK.out 0; have f1 := blk_frozen BK.out 1; have f2 := blk_frozen BK.out 2)
  refine bodyPost_ret (results_ct rfl _ _ w.heap.size 26 #[.int .i64 0, .int .i64 0, .int .i64 0] (0, 0) _ rfl (by refine blk_put (cs := #[.int .i64 0, .int .i64 0, .int .i64 0]) ?_ 2 _ rfl; refine blk_put (cs := #[.int .i64 0, .int .i64 0, .int .i64 0]) ?_ 1 _ rfl; refine blk_put (cs := #[.int .i64 0, .int .i64 0, .int .i64 0]) ?_ 0 _ rfl; exact BK.out) Tryz.underlying26 rfl (by kernel_rfl)) rfl ?_
  exact ⟨rfl, by repeat (first | exact HB.out | refine below_set ?_ (Nat.le_refl _))⟩

set_option maxHeartbeats 8000000 in
set_option maxRecDepth 100000 in
theorem parse_bad0 (s : ByteArray) (w : World) (hl : Laid w) (hs : s.size < 4294967281) (p0 p1 p2 : ByteArray) (h : Lib.splitB ⟨#[45]⟩ 0 (Lib.countB s ⟨#[45]⟩) s = [p0, p1, p2]) (h0s : p0.size ≤ 4294967280) (h1s : p1.size ≤ 4294967280) (h2s : p2.size ≤ 4294967280) (h0 : ∀ v, Lib.atoiAll p0.data.toList ≠ .ok v) :
    Calls Tryz.prog 27 #[.string s] w (Parsed w.heap.size w 0 0 0 (some 3)) := by
  have H := Lib.hid h
  clear h
  have n_ := Lib.hid h0
  clear h0
  have h0 := n_
  clear n_
  have HB := Aside0.mk (Below.refl w.heap.size w)
  have HL := Aside0.mk hl
  clear hl
  go_enter Tryz.func27, Tryz.ntmps27
  go_wp2_with (first | (go_at_call 96; (refine (split_3 s hs p0 p1 p2 H.out _ (Laid.below HL.out (by repeat (first | (with_reducible first | exact HB.out | apply below_alloc | apply pw_below_drewN | apply below_drew1 | refine below_set ?_ GA.out | refine below_set ?_ (Nat.le_refl _)) | exact HB.out)))).mono ?_); rintro e w1 ⟨g, rfl, hg, hc, hb⟩; have BG := Aside0.mk hc; have BK := Aside0.mk (blk_below (blk_new w _) hb); have n0_ := Aside0.mk (below_step (below_alloc HB.out _) hb); clear HB; have HB := n0_; clear n0_; clear hb hc hg; have z0 : w1.cell? ⟨w.heap.size, 0, none⟩ = some (.int .i64 0) := (blk_cell BK.out 0).trans rfl; have z1 : w1.cell? ⟨w.heap.size, 1, none⟩ = some (.int .i64 0) := (blk_cell BK.out 1).trans rfl; have z2 : w1.cell? ⟨w.heap.size, 2, none⟩ = some (.int .i64 0) := (blk_cell BK.out 2).trans rfl; have f0 := blk_frozen BK.out 0; have f1 := blk_frozen BK.out 1; have f2 := blk_frozen BK.out 2) | ((with_reducible refine gate_dst (N := 5) rfl ?_); refine box_event ?hg (N := 5) ?hd (cs := #[.int .i64 0, .int .i64 0, .int .i64 0]) (t := 164) ?hr ?_; (case hd => rfl); (case hg => rfl); (case hr => first | (go_simp; done) | (go_simp; rfl)); intro ga hga w2 hbox hb2; have GA := Aside0.mk (show w.heap.size ≤ ga by rw [hga]; exact below_size HB.out); have n0_ := Aside0.mk (below_step HB.out hb2); have n1_ := Aside0.mk (blk_below BK.out hb2); have n2_ := Aside0.mk (blk_below BG.out hb2); have BA := Aside0.mk hbox; clear HB BK BG z0 z1 z2 f0 f1 f2; have HB := n0_; have BK := n1_; have BG := n2_; clear n0_ n1_ n2_; clear hb2 hbox hga; have NKA := Aside0.mk (blk_ne BK.out BA.out (by decide)); have NGA := Aside0.mk (blk_ne BG.out BA.out (by decide)); have y0 : w2.cell? ⟨g, 0, none⟩ = some (.string p0) := (blk_cell BG.out 0).trans rfl; have y1 : w2.cell? ⟨g, 1, none⟩ = some (.string p1) := (blk_cell BG.out 1).trans rfl; have y2 : w2.cell? ⟨g, 2, none⟩ = some (.string p2) := (blk_cell BG.out 2).trans rfl; have x0 : w2.cell? ⟨ga, 0, none⟩ = some (.int .i64 0) := (blk_cell BA.out 0).trans rfl; have x1 : w2.cell? ⟨ga, 1, none⟩ = some (.int .i64 0) := (blk_cell BA.out 1).trans rfl; have x2 : w2.cell? ⟨ga, 2, none⟩ = some (.int .i64 0) := (blk_cell BA.out 2).trans rfl; have q0 := blk_frozen BA.out 0; have q1 := blk_frozen BA.out 1; have q2 := blk_frozen BA.out 2))
  refine wp_loop_rounds 1 ?_
  rw [rounds_succ]
  go_wp2_with (first | (go_at_call 97; (with_reducible refine (atoi_bad p0 h0s h0.out _ (Laid.below HL.out (by repeat (first | (with_reducible first | exact HB.out | apply below_alloc | apply pw_below_drewN | apply below_drew1 | refine below_set ?_ GA.out | refine below_set ?_ (Nat.le_refl _)) | exact HB.out)))).mono ?_); rintro e w3 ⟨u, N, rfl, hb⟩; have n0_ := Aside0.mk (below_step HB.out hb); have n1_ := Aside0.mk (blk_below BK.out hb); have n2_ := Aside0.mk (blk_below BG.out hb); have n3_ := Aside0.mk (blk_below BA.out hb); clear HB BK BG BA y0 y1 y2 x0 x1 x2 q0 q1 q2; have HB := n0_; have BK := n1_; have BG := n2_; have BA := n3_; clear n0_ n1_ n2_ n3_; clear hb; have y0 : w3.cell? ⟨g, 0, none⟩ = some (.string p0) := (blk_cell BG.out 0).trans rfl; have y1 : w3.cell? ⟨g, 1, none⟩ = some (.string p1) := (blk_cell BG.out 1).trans rfl; have y2 : w3.cell? ⟨g, 2, none⟩ = some (.string p2) := (blk_cell BG.out 2).trans rfl; have x0 : w3.cell? ⟨ga, 0, none⟩ = some (.int .i64 0) := (blk_cell BA.out 0).trans rfl; have x1 : w3.cell? ⟨ga, 1, none⟩ = some (.int .i64 0) := (blk_cell BA.out 1).trans rfl; have x2 : w3.cell? ⟨ga, 2, none⟩ = some (.int .i64 0) := (blk_cell BA.out 2).trans rfl; have q0 := blk_frozen BA.out 0; have q1 := blk_frozen BA.out 1; have q2 := blk_frozen BA.out 2; have z0 : w3.cell? ⟨w.heap.size, 0, none⟩ = some (.int .i64 0) := (blk_cell BK.out 0).trans rfl; have z1 : w3.cell? ⟨w.heap.size, 1, none⟩ = some (.int .i64 0) := (blk_cell BK.out 1).trans rfl; have z2 : w3.cell? ⟨w.heap.size, 2, none⟩ = some (.int .i64 0) := (blk_cell BK.out 2).trans rfl; have f0 := blk_frozen BK.out 0; have f1 := blk_frozen BK.out 1; have f2 := blk_frozen BK.out 2))
  refine bodyPost_ret (results_ct rfl _ _ w.heap.size 26 #[.int .i64 0, .int .i64 0, .int .i64 0] (0, 0) _ rfl (by refine blk_put (cs := #[.int .i64 0, .int .i64 0, .int .i64 0]) ?_ 2 _ rfl; refine blk_put (cs := #[.int .i64 0, .int .i64 0, .int .i64 0]) ?_ 1 _ rfl; refine blk_put (cs := #[.int .i64 0, .int .i64 0, .int .i64 0]) ?_ 0 _ rfl; exact BK.out) Tryz.underlying26 rfl (by kernel_rfl)) rfl ?_
  exact ⟨rfl, by repeat (first | exact HB.out | refine below_set ?_ (Nat.le_refl _))⟩

set_option maxHeartbeats 8000000 in
set_option maxRecDepth 100000 in
theorem parse_bad1 (s : ByteArray) (w : World) (hl : Laid w) (hs : s.size < 4294967281) (p0 p1 p2 : ByteArray) (h : Lib.splitB ⟨#[45]⟩ 0 (Lib.countB s ⟨#[45]⟩) s = [p0, p1, p2]) (h0s : p0.size ≤ 4294967280) (h1s : p1.size ≤ 4294967280) (h2s : p2.size ≤ 4294967280) (v0 : Int) (h0 : Lib.atoiAll p0.data.toList = .ok v0) (h1 : ∀ v, Lib.atoiAll p1.data.toList ≠ .ok v) :
    Calls Tryz.prog 27 #[.string s] w (Parsed w.heap.size w 0 0 0 (some 3)) := by
  have H := Lib.hid h
  clear h
  have n_ := Lib.hid h0
  clear h0
  have h0 := n_
  clear n_
  have n_ := Lib.hid h1
  clear h1
  have h1 := n_
  clear n_
  have HB := Aside0.mk (Below.refl w.heap.size w)
  have HL := Aside0.mk hl
  clear hl
  go_enter Tryz.func27, Tryz.ntmps27
  go_wp2_with (first | (go_at_call 96; (refine (split_3 s hs p0 p1 p2 H.out _ (Laid.below HL.out (by repeat (first | (with_reducible first | exact HB.out | apply below_alloc | apply pw_below_drewN | apply below_drew1 | refine below_set ?_ GA.out | refine below_set ?_ (Nat.le_refl _)) | exact HB.out)))).mono ?_); rintro e w1 ⟨g, rfl, hg, hc, hb⟩; have BG := Aside0.mk hc; have BK := Aside0.mk (blk_below (blk_new w _) hb); have n0_ := Aside0.mk (below_step (below_alloc HB.out _) hb); clear HB; have HB := n0_; clear n0_; clear hb hc hg; have z0 : w1.cell? ⟨w.heap.size, 0, none⟩ = some (.int .i64 0) := (blk_cell BK.out 0).trans rfl; have z1 : w1.cell? ⟨w.heap.size, 1, none⟩ = some (.int .i64 0) := (blk_cell BK.out 1).trans rfl; have z2 : w1.cell? ⟨w.heap.size, 2, none⟩ = some (.int .i64 0) := (blk_cell BK.out 2).trans rfl; have f0 := blk_frozen BK.out 0; have f1 := blk_frozen BK.out 1; have f2 := blk_frozen BK.out 2) | ((with_reducible refine gate_dst (N := 5) rfl ?_); refine box_event ?hg (N := 5) ?hd (cs := #[.int .i64 0, .int .i64 0, .int .i64 0]) (t := 164) ?hr ?_; (case hd => rfl); (case hg => rfl); (case hr => first | (go_simp; done) | (go_simp; rfl)); intro ga hga w2 hbox hb2; have GA := Aside0.mk (show w.heap.size ≤ ga by rw [hga]; exact below_size HB.out); have n0_ := Aside0.mk (below_step HB.out hb2); have n1_ := Aside0.mk (blk_below BK.out hb2); have n2_ := Aside0.mk (blk_below BG.out hb2); have BA := Aside0.mk hbox; clear HB BK BG z0 z1 z2 f0 f1 f2; have HB := n0_; have BK := n1_; have BG := n2_; clear n0_ n1_ n2_; clear hb2 hbox hga; have NKA := Aside0.mk (blk_ne BK.out BA.out (by decide)); have NGA := Aside0.mk (blk_ne BG.out BA.out (by decide)); have y0 : w2.cell? ⟨g, 0, none⟩ = some (.string p0) := (blk_cell BG.out 0).trans rfl; have y1 : w2.cell? ⟨g, 1, none⟩ = some (.string p1) := (blk_cell BG.out 1).trans rfl; have y2 : w2.cell? ⟨g, 2, none⟩ = some (.string p2) := (blk_cell BG.out 2).trans rfl; have x0 : w2.cell? ⟨ga, 0, none⟩ = some (.int .i64 0) := (blk_cell BA.out 0).trans rfl; have x1 : w2.cell? ⟨ga, 1, none⟩ = some (.int .i64 0) := (blk_cell BA.out 1).trans rfl; have x2 : w2.cell? ⟨ga, 2, none⟩ = some (.int .i64 0) := (blk_cell BA.out 2).trans rfl; have q0 := blk_frozen BA.out 0; have q1 := blk_frozen BA.out 1; have q2 := blk_frozen BA.out 2))
  refine wp_loop_rounds 2 ?_
  rw [rounds_succ]
  go_wp2_with (first | (go_at_call 97; (with_reducible refine (atoi_ok p0 h0s v0 h0.out _).mono ?_); rintro e w3 ⟨rfl, hb⟩; have n0_ := Aside0.mk (below_step HB.out hb); have n1_ := Aside0.mk (blk_below BK.out hb); have n2_ := Aside0.mk (blk_below BG.out hb); have n3_ := Aside0.mk (blk_below BA.out hb); clear HB BK BG BA y0 y1 y2 x0 x1 x2 q0 q1 q2; have HB := n0_; have BK := n1_; have BG := n2_; have BA := n3_; clear n0_ n1_ n2_ n3_; clear hb; have y0 : w3.cell? ⟨g, 0, none⟩ = some (.string p0) := (blk_cell BG.out 0).trans rfl; have y1 : w3.cell? ⟨g, 1, none⟩ = some (.string p1) := (blk_cell BG.out 1).trans rfl; have y2 : w3.cell? ⟨g, 2, none⟩ = some (.string p2) := (blk_cell BG.out 2).trans rfl; have x0 : w3.cell? ⟨ga, 0, none⟩ = some (.int .i64 0) := (blk_cell BA.out 0).trans rfl; have x1 : w3.cell? ⟨ga, 1, none⟩ = some (.int .i64 0) := (blk_cell BA.out 1).trans rfl; have x2 : w3.cell? ⟨ga, 2, none⟩ = some (.int .i64 0) := (blk_cell BA.out 2).trans rfl; have q0 := blk_frozen BA.out 0; have q1 := blk_frozen BA.out 1; have q2 := blk_frozen BA.out 2; have z0 : w3.cell? ⟨w.heap.size, 0, none⟩ = some (.int .i64 0) := (blk_cell BK.out 0).trans rfl; have z1 : w3.cell? ⟨w.heap.size, 1, none⟩ = some (.int .i64 0) := (blk_cell BK.out 1).trans rfl; have z2 : w3.cell? ⟨w.heap.size, 2, none⟩ = some (.int .i64 0) := (blk_cell BK.out 2).trans rfl; have f0 := blk_frozen BK.out 0; have f1 := blk_frozen BK.out 1; have f2 := blk_frozen BK.out 2))
  rw [rounds_succ]
  go_wp2_with (first | (go_at_call 97; (with_reducible refine (atoi_bad p1 h1s h1.out _ (Laid.below HL.out (by repeat (first | (with_reducible first | exact HB.out | apply below_alloc | apply pw_below_drewN | apply below_drew1 | refine below_set ?_ GA.out | refine below_set ?_ (Nat.le_refl _)) | exact HB.out)))).mono ?_); rintro e w4 ⟨u, N, rfl, hb⟩; have n0_ := Aside0.mk (below_step (below_set HB.out GA.out) hb); have n1_ := Aside0.mk (blk_below (blk_far BK.out NKA.out _) hb); have n2_ := Aside0.mk (blk_below (blk_far BG.out NGA.out _) hb); have n3_ := Aside0.mk (blk_below (blk_put (cs' := #[.int .i64 v0, .int .i64 0, .int .i64 0]) BA.out 0 (.int .i64 v0) rfl) hb); clear HB BK BG BA y0 y1 y2 x0 x1 x2 q0 q1 q2; have HB := n0_; have BK := n1_; have BG := n2_; have BA := n3_; clear n0_ n1_ n2_ n3_; clear hb; have y0 : w4.cell? ⟨g, 0, none⟩ = some (.string p0) := (blk_cell BG.out 0).trans rfl; have y1 : w4.cell? ⟨g, 1, none⟩ = some (.string p1) := (blk_cell BG.out 1).trans rfl; have y2 : w4.cell? ⟨g, 2, none⟩ = some (.string p2) := (blk_cell BG.out 2).trans rfl; have x0 : w4.cell? ⟨ga, 0, none⟩ = some (.int .i64 v0) := (blk_cell BA.out 0).trans rfl; have x1 : w4.cell? ⟨ga, 1, none⟩ = some (.int .i64 0) := (blk_cell BA.out 1).trans rfl; have x2 : w4.cell? ⟨ga, 2, none⟩ = some (.int .i64 0) := (blk_cell BA.out 2).trans rfl; have q0 := blk_frozen BA.out 0; have q1 := blk_frozen BA.out 1; have q2 := blk_frozen BA.out 2; have z0 : w4.cell? ⟨w.heap.size, 0, none⟩ = some (.int .i64 0) := (blk_cell BK.out 0).trans rfl; have z1 : w4.cell? ⟨w.heap.size, 1, none⟩ = some (.int .i64 0) := (blk_cell BK.out 1).trans rfl; have z2 : w4.cell? ⟨w.heap.size, 2, none⟩ = some (.int .i64 0) := (blk_cell BK.out 2).trans rfl; have f0 := blk_frozen BK.out 0; have f1 := blk_frozen BK.out 1; have f2 := blk_frozen BK.out 2))
  refine bodyPost_ret (results_ct rfl _ _ w.heap.size 26 #[.int .i64 0, .int .i64 0, .int .i64 0] (0, 0) _ rfl (by refine blk_put (cs := #[.int .i64 0, .int .i64 0, .int .i64 0]) ?_ 2 _ rfl; refine blk_put (cs := #[.int .i64 0, .int .i64 0, .int .i64 0]) ?_ 1 _ rfl; refine blk_put (cs := #[.int .i64 0, .int .i64 0, .int .i64 0]) ?_ 0 _ rfl; exact BK.out) Tryz.underlying26 rfl (by kernel_rfl)) rfl ?_
  exact ⟨rfl, by repeat (first | exact HB.out | refine below_set ?_ (Nat.le_refl _))⟩

set_option maxHeartbeats 8000000 in
set_option maxRecDepth 100000 in
theorem parse_bad2 (s : ByteArray) (w : World) (hl : Laid w) (hs : s.size < 4294967281) (p0 p1 p2 : ByteArray) (h : Lib.splitB ⟨#[45]⟩ 0 (Lib.countB s ⟨#[45]⟩) s = [p0, p1, p2]) (h0s : p0.size ≤ 4294967280) (h1s : p1.size ≤ 4294967280) (h2s : p2.size ≤ 4294967280) (v0 : Int) (h0 : Lib.atoiAll p0.data.toList = .ok v0) (v1 : Int) (h1 : Lib.atoiAll p1.data.toList = .ok v1) (h2 : ∀ v, Lib.atoiAll p2.data.toList ≠ .ok v) :
    Calls Tryz.prog 27 #[.string s] w (Parsed w.heap.size w 0 0 0 (some 3)) := by
  have H := Lib.hid h
  clear h
  have n_ := Lib.hid h0
  clear h0
  have h0 := n_
  clear n_
  have n_ := Lib.hid h1
  clear h1
  have h1 := n_
  clear n_
  have n_ := Lib.hid h2
  clear h2
  have h2 := n_
  clear n_
  have HB := Aside0.mk (Below.refl w.heap.size w)
  have HL := Aside0.mk hl
  clear hl
  go_enter Tryz.func27, Tryz.ntmps27
  go_wp2_with (first | (go_at_call 96; (refine (split_3 s hs p0 p1 p2 H.out _ (Laid.below HL.out (by repeat (first | (with_reducible first | exact HB.out | apply below_alloc | apply pw_below_drewN | apply below_drew1 | refine below_set ?_ GA.out | refine below_set ?_ (Nat.le_refl _)) | exact HB.out)))).mono ?_); rintro e w1 ⟨g, rfl, hg, hc, hb⟩; have BG := Aside0.mk hc; have BK := Aside0.mk (blk_below (blk_new w _) hb); have n0_ := Aside0.mk (below_step (below_alloc HB.out _) hb); clear HB; have HB := n0_; clear n0_; clear hb hc hg; have z0 : w1.cell? ⟨w.heap.size, 0, none⟩ = some (.int .i64 0) := (blk_cell BK.out 0).trans rfl; have z1 : w1.cell? ⟨w.heap.size, 1, none⟩ = some (.int .i64 0) := (blk_cell BK.out 1).trans rfl; have z2 : w1.cell? ⟨w.heap.size, 2, none⟩ = some (.int .i64 0) := (blk_cell BK.out 2).trans rfl; have f0 := blk_frozen BK.out 0; have f1 := blk_frozen BK.out 1; have f2 := blk_frozen BK.out 2) | ((with_reducible refine gate_dst (N := 5) rfl ?_); refine box_event ?hg (N := 5) ?hd (cs := #[.int .i64 0, .int .i64 0, .int .i64 0]) (t := 164) ?hr ?_; (case hd => rfl); (case hg => rfl); (case hr => first | (go_simp; done) | (go_simp; rfl)); intro ga hga w2 hbox hb2; have GA := Aside0.mk (show w.heap.size ≤ ga by rw [hga]; exact below_size HB.out); have n0_ := Aside0.mk (below_step HB.out hb2); have n1_ := Aside0.mk (blk_below BK.out hb2); have n2_ := Aside0.mk (blk_below BG.out hb2); have BA := Aside0.mk hbox; clear HB BK BG z0 z1 z2 f0 f1 f2; have HB := n0_; have BK := n1_; have BG := n2_; clear n0_ n1_ n2_; clear hb2 hbox hga; have NKA := Aside0.mk (blk_ne BK.out BA.out (by decide)); have NGA := Aside0.mk (blk_ne BG.out BA.out (by decide)); have y0 : w2.cell? ⟨g, 0, none⟩ = some (.string p0) := (blk_cell BG.out 0).trans rfl; have y1 : w2.cell? ⟨g, 1, none⟩ = some (.string p1) := (blk_cell BG.out 1).trans rfl; have y2 : w2.cell? ⟨g, 2, none⟩ = some (.string p2) := (blk_cell BG.out 2).trans rfl; have x0 : w2.cell? ⟨ga, 0, none⟩ = some (.int .i64 0) := (blk_cell BA.out 0).trans rfl; have x1 : w2.cell? ⟨ga, 1, none⟩ = some (.int .i64 0) := (blk_cell BA.out 1).trans rfl; have x2 : w2.cell? ⟨ga, 2, none⟩ = some (.int .i64 0) := (blk_cell BA.out 2).trans rfl; have q0 := blk_frozen BA.out 0; have q1 := blk_frozen BA.out 1; have q2 := blk_frozen BA.out 2))
  refine wp_loop_rounds 3 ?_
  rw [rounds_succ]
  go_wp2_with (first | (go_at_call 97; (with_reducible refine (atoi_ok p0 h0s v0 h0.out _).mono ?_); rintro e w3 ⟨rfl, hb⟩; have n0_ := Aside0.mk (below_step HB.out hb); have n1_ := Aside0.mk (blk_below BK.out hb); have n2_ := Aside0.mk (blk_below BG.out hb); have n3_ := Aside0.mk (blk_below BA.out hb); clear HB BK BG BA y0 y1 y2 x0 x1 x2 q0 q1 q2; have HB := n0_; have BK := n1_; have BG := n2_; have BA := n3_; clear n0_ n1_ n2_ n3_; clear hb; have y0 : w3.cell? ⟨g, 0, none⟩ = some (.string p0) := (blk_cell BG.out 0).trans rfl; have y1 : w3.cell? ⟨g, 1, none⟩ = some (.string p1) := (blk_cell BG.out 1).trans rfl; have y2 : w3.cell? ⟨g, 2, none⟩ = some (.string p2) := (blk_cell BG.out 2).trans rfl; have x0 : w3.cell? ⟨ga, 0, none⟩ = some (.int .i64 0) := (blk_cell BA.out 0).trans rfl; have x1 : w3.cell? ⟨ga, 1, none⟩ = some (.int .i64 0) := (blk_cell BA.out 1).trans rfl; have x2 : w3.cell? ⟨ga, 2, none⟩ = some (.int .i64 0) := (blk_cell BA.out 2).trans rfl; have q0 := blk_frozen BA.out 0; have q1 := blk_frozen BA.out 1; have q2 := blk_frozen BA.out 2; have z0 : w3.cell? ⟨w.heap.size, 0, none⟩ = some (.int .i64 0) := (blk_cell BK.out 0).trans rfl; have z1 : w3.cell? ⟨w.heap.size, 1, none⟩ = some (.int .i64 0) := (blk_cell BK.out 1).trans rfl; have z2 : w3.cell? ⟨w.heap.size, 2, none⟩ = some (.int .i64 0) := (blk_cell BK.out 2).trans rfl; have f0 := blk_frozen BK.out 0; have f1 := blk_frozen BK.out 1; have f2 := blk_frozen BK.out 2))
  rw [rounds_succ]
  go_wp2_with (first | (go_at_call 97; (with_reducible refine (atoi_ok p1 h1s v1 h1.out _).mono ?_); rintro e w4 ⟨rfl, hb⟩; have n0_ := Aside0.mk (below_step (below_set HB.out GA.out) hb); have n1_ := Aside0.mk (blk_below (blk_far BK.out NKA.out _) hb); have n2_ := Aside0.mk (blk_below (blk_far BG.out NGA.out _) hb); have n3_ := Aside0.mk (blk_below (blk_put (cs' := #[.int .i64 v0, .int .i64 0, .int .i64 0]) BA.out 0 (.int .i64 v0) rfl) hb); clear HB BK BG BA y0 y1 y2 x0 x1 x2 q0 q1 q2; have HB := n0_; have BK := n1_; have BG := n2_; have BA := n3_; clear n0_ n1_ n2_ n3_; clear hb; have y0 : w4.cell? ⟨g, 0, none⟩ = some (.string p0) := (blk_cell BG.out 0).trans rfl; have y1 : w4.cell? ⟨g, 1, none⟩ = some (.string p1) := (blk_cell BG.out 1).trans rfl; have y2 : w4.cell? ⟨g, 2, none⟩ = some (.string p2) := (blk_cell BG.out 2).trans rfl; have x0 : w4.cell? ⟨ga, 0, none⟩ = some (.int .i64 v0) := (blk_cell BA.out 0).trans rfl; have x1 : w4.cell? ⟨ga, 1, none⟩ = some (.int .i64 0) := (blk_cell BA.out 1).trans rfl; have x2 : w4.cell? ⟨ga, 2, none⟩ = some (.int .i64 0) := (blk_cell BA.out 2).trans rfl; have q0 := blk_frozen BA.out 0; have q1 := blk_frozen BA.out 1; have q2 := blk_frozen BA.out 2; have z0 : w4.cell? ⟨w.heap.size, 0, none⟩ = some (.int .i64 0) := (blk_cell BK.out 0).trans rfl; have z1 : w4.cell? ⟨w.heap.size, 1, none⟩ = some (.int .i64 0) := (blk_cell BK.out 1).trans rfl; have z2 : w4.cell? ⟨w.heap.size, 2, none⟩ = some (.int .i64 0) := (blk_cell BK.out 2).trans rfl; have f0 := blk_frozen BK.out 0; have f1 := blk_frozen BK.out 1; have f2 := blk_frozen BK.out 2))
  rw [rounds_succ]
  go_wp2_with (first | (go_at_call 97; (with_reducible refine (atoi_bad p2 h2s h2.out _ (Laid.below HL.out (by repeat (first | (with_reducible first | exact HB.out | apply below_alloc | apply pw_below_drewN | apply below_drew1 | refine below_set ?_ GA.out | refine below_set ?_ (Nat.le_refl _)) | exact HB.out)))).mono ?_); rintro e w5 ⟨u, N, rfl, hb⟩; have n0_ := Aside0.mk (below_step (below_set HB.out GA.out) hb); have n1_ := Aside0.mk (blk_below (blk_far BK.out NKA.out _) hb); have n2_ := Aside0.mk (blk_below (blk_far BG.out NGA.out _) hb); have n3_ := Aside0.mk (blk_below (blk_put (cs' := #[.int .i64 v0, .int .i64 v1, .int .i64 0]) BA.out 1 (.int .i64 v1) rfl) hb); clear HB BK BG BA y0 y1 y2 x0 x1 x2 q0 q1 q2; have HB := n0_; have BK := n1_; have BG := n2_; have BA := n3_; clear n0_ n1_ n2_ n3_; clear hb; have y0 : w5.cell? ⟨g, 0, none⟩ = some (.string p0) := (blk_cell BG.out 0).trans rfl; have y1 : w5.cell? ⟨g, 1, none⟩ = some (.string p1) := (blk_cell BG.out 1).trans rfl; have y2 : w5.cell? ⟨g, 2, none⟩ = some (.string p2) := (blk_cell BG.out 2).trans rfl; have x0 : w5.cell? ⟨ga, 0, none⟩ = some (.int .i64 v0) := (blk_cell BA.out 0).trans rfl; have x1 : w5.cell? ⟨ga, 1, none⟩ = some (.int .i64 v1) := (blk_cell BA.out 1).trans rfl; have x2 : w5.cell? ⟨ga, 2, none⟩ = some (.int .i64 0) := (blk_cell BA.out 2).trans rfl; have q0 := blk_frozen BA.out 0; have q1 := blk_frozen BA.out 1; have q2 := blk_frozen BA.out 2; have z0 : w5.cell? ⟨w.heap.size, 0, none⟩ = some (.int .i64 0) := (blk_cell BK.out 0).trans rfl; have z1 : w5.cell? ⟨w.heap.size, 1, none⟩ = some (.int .i64 0) := (blk_cell BK.out 1).trans rfl; have z2 : w5.cell? ⟨w.heap.size, 2, none⟩ = some (.int .i64 0) := (blk_cell BK.out 2).trans rfl; have f0 := blk_frozen BK.out 0; have f1 := blk_frozen BK.out 1; have f2 := blk_frozen BK.out 2))
  refine bodyPost_ret (results_ct rfl _ _ w.heap.size 26 #[.int .i64 0, .int .i64 0, .int .i64 0] (0, 0) _ rfl (by refine blk_put (cs := #[.int .i64 0, .int .i64 0, .int .i64 0]) ?_ 2 _ rfl; refine blk_put (cs := #[.int .i64 0, .int .i64 0, .int .i64 0]) ?_ 1 _ rfl; refine blk_put (cs := #[.int .i64 0, .int .i64 0, .int .i64 0]) ?_ 0 _ rfl; exact BK.out) Tryz.underlying26 rfl (by kernel_rfl)) rfl ?_
  exact ⟨rfl, by repeat (first | exact HB.out | refine below_set ?_ (Nat.le_refl _))⟩

set_option maxHeartbeats 8000000 in
set_option maxRecDepth 100000 in
theorem parse_inv (s : ByteArray) (w : World) (hl : Laid w) (hs : s.size < 4294967281) (p0 p1 p2 : ByteArray) (h : Lib.splitB ⟨#[45]⟩ 0 (Lib.countB s ⟨#[45]⟩) s = [p0, p1, p2]) (h0s : p0.size ≤ 4294967280) (h1s : p1.size ≤ 4294967280) (h2s : p2.size ≤ 4294967280) (v0 : Int) (h0 : Lib.atoiAll p0.data.toList = .ok v0) (v1 : Int) (h1 : Lib.atoiAll p1.data.toList = .ok v1) (v2 : Int) (h2 : Lib.atoiAll p2.data.toList = .ok v2) (nv : ¬ vld v0 v1 v2) :
    Calls Tryz.prog 27 #[.string s] w (Parsed w.heap.size w 0 0 0 (some 3)) := by
  have H := Lib.hid h
  clear h
  have n_ := Lib.hid h0
  clear h0
  have h0 := n_
  clear n_
  have n_ := Lib.hid h1
  clear h1
  have h1 := n_
  clear n_
  have n_ := Lib.hid h2
  clear h2
  have h2 := n_
  clear n_
  have hT := Aside0.mk (show civil_Text.f 2 v0 v1 v2 = some (⟨#[]⟩, some 1) by rw [CivP.text 2 _ _ _ (by omega), if_neg nv])
  clear nv
  have HB := Aside0.mk (Below.refl w.heap.size w)
  have HL := Aside0.mk hl
  clear hl
  go_enter Tryz.func27, Tryz.ntmps27
  go_wp2_with (first | (go_at_call 96; (refine (split_3 s hs p0 p1 p2 H.out _ (Laid.below HL.out (by repeat (first | (with_reducible first | exact HB.out | apply below_alloc | apply pw_below_drewN | apply below_drew1 | refine below_set ?_ GA.out | refine below_set ?_ (Nat.le_refl _)) | exact HB.out)))).mono ?_); rintro e w1 ⟨g, rfl, hg, hc, hb⟩; have BG := Aside0.mk hc; have BK := Aside0.mk (blk_below (blk_new w _) hb); have n0_ := Aside0.mk (below_step (below_alloc HB.out _) hb); clear HB; have HB := n0_; clear n0_; clear hb hc hg; have z0 : w1.cell? ⟨w.heap.size, 0, none⟩ = some (.int .i64 0) := (blk_cell BK.out 0).trans rfl; have z1 : w1.cell? ⟨w.heap.size, 1, none⟩ = some (.int .i64 0) := (blk_cell BK.out 1).trans rfl; have z2 : w1.cell? ⟨w.heap.size, 2, none⟩ = some (.int .i64 0) := (blk_cell BK.out 2).trans rfl; have f0 := blk_frozen BK.out 0; have f1 := blk_frozen BK.out 1; have f2 := blk_frozen BK.out 2) | ((with_reducible refine gate_dst (N := 5) rfl ?_); refine box_event ?hg (N := 5) ?hd (cs := #[.int .i64 0, .int .i64 0, .int .i64 0]) (t := 164) ?hr ?_; (case hd => rfl); (case hg => rfl); (case hr => first | (go_simp; done) | (go_simp; rfl)); intro ga hga w2 hbox hb2; have GA := Aside0.mk (show w.heap.size ≤ ga by rw [hga]; exact below_size HB.out); have n0_ := Aside0.mk (below_step HB.out hb2); have n1_ := Aside0.mk (blk_below BK.out hb2); have n2_ := Aside0.mk (blk_below BG.out hb2); have BA := Aside0.mk hbox; clear HB BK BG z0 z1 z2 f0 f1 f2; have HB := n0_; have BK := n1_; have BG := n2_; clear n0_ n1_ n2_; clear hb2 hbox hga; have NKA := Aside0.mk (blk_ne BK.out BA.out (by decide)); have NGA := Aside0.mk (blk_ne BG.out BA.out (by decide)); have y0 : w2.cell? ⟨g, 0, none⟩ = some (.string p0) := (blk_cell BG.out 0).trans rfl; have y1 : w2.cell? ⟨g, 1, none⟩ = some (.string p1) := (blk_cell BG.out 1).trans rfl; have y2 : w2.cell? ⟨g, 2, none⟩ = some (.string p2) := (blk_cell BG.out 2).trans rfl; have x0 : w2.cell? ⟨ga, 0, none⟩ = some (.int .i64 0) := (blk_cell BA.out 0).trans rfl; have x1 : w2.cell? ⟨ga, 1, none⟩ = some (.int .i64 0) := (blk_cell BA.out 1).trans rfl; have x2 : w2.cell? ⟨ga, 2, none⟩ = some (.int .i64 0) := (blk_cell BA.out 2).trans rfl; have q0 := blk_frozen BA.out 0; have q1 := blk_frozen BA.out 1; have q2 := blk_frozen BA.out 2))
  refine wp_loop_rounds 4 ?_
  rw [rounds_succ]
  go_wp2_with (first | (go_at_call 97; (with_reducible refine (atoi_ok p0 h0s v0 h0.out _).mono ?_); rintro e w3 ⟨rfl, hb⟩; have n0_ := Aside0.mk (below_step HB.out hb); have n1_ := Aside0.mk (blk_below BK.out hb); have n2_ := Aside0.mk (blk_below BG.out hb); have n3_ := Aside0.mk (blk_below BA.out hb); clear HB BK BG BA y0 y1 y2 x0 x1 x2 q0 q1 q2; have HB := n0_; have BK := n1_; have BG := n2_; have BA := n3_; clear n0_ n1_ n2_ n3_; clear hb; have y0 : w3.cell? ⟨g, 0, none⟩ = some (.string p0) := (blk_cell BG.out 0).trans rfl; have y1 : w3.cell? ⟨g, 1, none⟩ = some (.string p1) := (blk_cell BG.out 1).trans rfl; have y2 : w3.cell? ⟨g, 2, none⟩ = some (.string p2) := (blk_cell BG.out 2).trans rfl; have x0 : w3.cell? ⟨ga, 0, none⟩ = some (.int .i64 0) := (blk_cell BA.out 0).trans rfl; have x1 : w3.cell? ⟨ga, 1, none⟩ = some (.int .i64 0) := (blk_cell BA.out 1).trans rfl; have x2 : w3.cell? ⟨ga, 2, none⟩ = some (.int .i64 0) := (blk_cell BA.out 2).trans rfl; have q0 := blk_frozen BA.out 0; have q1 := blk_frozen BA.out 1; have q2 := blk_frozen BA.out 2; have z0 : w3.cell? ⟨w.heap.size, 0, none⟩ = some (.int .i64 0) := (blk_cell BK.out 0).trans rfl; have z1 : w3.cell? ⟨w.heap.size, 1, none⟩ = some (.int .i64 0) := (blk_cell BK.out 1).trans rfl; have z2 : w3.cell? ⟨w.heap.size, 2, none⟩ = some (.int .i64 0) := (blk_cell BK.out 2).trans rfl; have f0 := blk_frozen BK.out 0; have f1 := blk_frozen BK.out 1; have f2 := blk_frozen BK.out 2))
  rw [rounds_succ]
  go_wp2_with (first | (go_at_call 97; (with_reducible refine (atoi_ok p1 h1s v1 h1.out _).mono ?_); rintro e w4 ⟨rfl, hb⟩; have n0_ := Aside0.mk (below_step (below_set HB.out GA.out) hb); have n1_ := Aside0.mk (blk_below (blk_far BK.out NKA.out _) hb); have n2_ := Aside0.mk (blk_below (blk_far BG.out NGA.out _) hb); have n3_ := Aside0.mk (blk_below (blk_put (cs' := #[.int .i64 v0, .int .i64 0, .int .i64 0]) BA.out 0 (.int .i64 v0) rfl) hb); clear HB BK BG BA y0 y1 y2 x0 x1 x2 q0 q1 q2; have HB := n0_; have BK := n1_; have BG := n2_; have BA := n3_; clear n0_ n1_ n2_ n3_; clear hb; have y0 : w4.cell? ⟨g, 0, none⟩ = some (.string p0) := (blk_cell BG.out 0).trans rfl; have y1 : w4.cell? ⟨g, 1, none⟩ = some (.string p1) := (blk_cell BG.out 1).trans rfl; have y2 : w4.cell? ⟨g, 2, none⟩ = some (.string p2) := (blk_cell BG.out 2).trans rfl; have x0 : w4.cell? ⟨ga, 0, none⟩ = some (.int .i64 v0) := (blk_cell BA.out 0).trans rfl; have x1 : w4.cell? ⟨ga, 1, none⟩ = some (.int .i64 0) := (blk_cell BA.out 1).trans rfl; have x2 : w4.cell? ⟨ga, 2, none⟩ = some (.int .i64 0) := (blk_cell BA.out 2).trans rfl; have q0 := blk_frozen BA.out 0; have q1 := blk_frozen BA.out 1; have q2 := blk_frozen BA.out 2; have z0 : w4.cell? ⟨w.heap.size, 0, none⟩ = some (.int .i64 0) := (blk_cell BK.out 0).trans rfl; have z1 : w4.cell? ⟨w.heap.size, 1, none⟩ = some (.int .i64 0) := (blk_cell BK.out 1).trans rfl; have z2 : w4.cell? ⟨w.heap.size, 2, none⟩ = some (.int .i64 0) := (blk_cell BK.out 2).trans rfl; have f0 := blk_frozen BK.out 0; have f1 := blk_frozen BK.out 1; have f2 := blk_frozen BK.out 2))
  rw [rounds_succ]
  go_wp2_with (first | (go_at_call 97; (with_reducible refine (atoi_ok p2 h2s v2 h2.out _).mono ?_); rintro e w5 ⟨rfl, hb⟩; have n0_ := Aside0.mk (below_step (below_set HB.out GA.out) hb); have n1_ := Aside0.mk (blk_below (blk_far BK.out NKA.out _) hb); have n2_ := Aside0.mk (blk_below (blk_far BG.out NGA.out _) hb); have n3_ := Aside0.mk (blk_below (blk_put (cs' := #[.int .i64 v0, .int .i64 v1, .int .i64 0]) BA.out 1 (.int .i64 v1) rfl) hb); clear HB BK BG BA y0 y1 y2 x0 x1 x2 q0 q1 q2; have HB := n0_; have BK := n1_; have BG := n2_; have BA := n3_; clear n0_ n1_ n2_ n3_; clear hb; have y0 : w5.cell? ⟨g, 0, none⟩ = some (.string p0) := (blk_cell BG.out 0).trans rfl; have y1 : w5.cell? ⟨g, 1, none⟩ = some (.string p1) := (blk_cell BG.out 1).trans rfl; have y2 : w5.cell? ⟨g, 2, none⟩ = some (.string p2) := (blk_cell BG.out 2).trans rfl; have x0 : w5.cell? ⟨ga, 0, none⟩ = some (.int .i64 v0) := (blk_cell BA.out 0).trans rfl; have x1 : w5.cell? ⟨ga, 1, none⟩ = some (.int .i64 v1) := (blk_cell BA.out 1).trans rfl; have x2 : w5.cell? ⟨ga, 2, none⟩ = some (.int .i64 0) := (blk_cell BA.out 2).trans rfl; have q0 := blk_frozen BA.out 0; have q1 := blk_frozen BA.out 1; have q2 := blk_frozen BA.out 2; have z0 : w5.cell? ⟨w.heap.size, 0, none⟩ = some (.int .i64 0) := (blk_cell BK.out 0).trans rfl; have z1 : w5.cell? ⟨w.heap.size, 1, none⟩ = some (.int .i64 0) := (blk_cell BK.out 1).trans rfl; have z2 : w5.cell? ⟨w.heap.size, 2, none⟩ = some (.int .i64 0) := (blk_cell BK.out 2).trans rfl; have f0 := blk_frozen BK.out 0; have f1 := blk_frozen BK.out 1; have f2 := blk_frozen BK.out 2))
  rw [rounds_succ]
  go_wp2_with (first | (go_at_call 26; (with_reducible refine (civil_Text.calls 2 v0 v1 v2 ⟨#[]⟩ (some 1) _ (Laid.below HL.out (by repeat (first | (with_reducible first | exact HB.out | apply below_alloc | apply pw_below_drewN | apply below_drew1 | refine below_set ?_ GA.out | refine below_set ?_ (Nat.le_refl _)) | exact HB.out))) hT.out).mono ?_); rintro e w6 ⟨rfl, hb⟩; (try simp only [errW_none, errW_some]); have n0_ := Aside0.mk (below_step (by repeat (first | (with_reducible first | exact HB.out | apply below_alloc | refine below_set ?_ GA.out) | exact HB.out)) hb); have n1_ := Aside0.mk (blk_below (blk_alloc (blk_far (p := ⟨ga, 2, none⟩) BK.out NKA.out (.int .i64 v2)) _) hb); have n2_ := Aside0.mk (show w6.heap[w5.heap.size]? = some (.cells #[.int .i64 v0, .int .i64 v1, .int .i64 v2] 26 (0, 0)) from by have q_ := blk_below (blk_new _ _) hb; simpa [World.setCell] using q_); clear HB BK; have HB := n0_; have BK := n1_; have BD := n2_; clear n0_ n1_ n2_; clear hb; have z0 : w6.cell? ⟨w.heap.size, 0, none⟩ = some (.int .i64 0) := (blk_cell BK.out 0).trans rfl; have z1 : w6.cell? ⟨w.heap.size, 1, none⟩ = some (.int .i64 0) := (blk_cell BK.out 1).trans rfl; have z2 : w6.cell? ⟨w.heap.size, 2, none⟩ = some (.int .i64 0) := (blk_cell BK.out 2).trans rfl; have f0 := blk_frozen BK.out 0; have f1 := blk_frozen BK.out 1; have f2 := blk_frozen BK.out 2; have d0 : w6.cell? ⟨w5.heap.size, 0, none⟩ = some (.int .i64 v0) := (blk_cell BD.out 0).trans rfl; have d1 : w6.cell? ⟨w5.heap.size, 1, none⟩ = some (.int .i64 v1) := (blk_cell BD.out 1).trans rfl; have d2 : w6.cell? ⟨w5.heap.size, 2, none⟩ = some (.int .i64 v2) := (blk_cell BD.out 2).trans rfl; have r0 := blk_frozen BD.out 0; have r1 := blk_frozen BD.out 1; have r2 := blk_frozen BD.out 2))
  refine bodyPost_ret (results_ct rfl _ _ w.heap.size 26 #[.int .i64 0, .int .i64 0, .int .i64 0] (0, 0) _ rfl (by refine blk_put (cs := #[.int .i64 0, .int .i64 0, .int .i64 0]) ?_ 2 _ rfl; refine blk_put (cs := #[.int .i64 0, .int .i64 0, .int .i64 0]) ?_ 1 _ rfl; refine blk_put (cs := #[.int .i64 0, .int .i64 0, .int .i64 0]) ?_ 0 _ rfl; exact BK.out) Tryz.underlying26 rfl (by kernel_rfl)) rfl ?_
  exact ⟨rfl, by repeat (first | exact HB.out | refine below_set ?_ (Nat.le_refl _))⟩

set_option maxHeartbeats 8000000 in
set_option maxRecDepth 100000 in
theorem parse_ne (s : ByteArray) (w : World) (hl : Laid w) (hs : s.size < 4294967281) (p0 p1 p2 : ByteArray) (h : Lib.splitB ⟨#[45]⟩ 0 (Lib.countB s ⟨#[45]⟩) s = [p0, p1, p2]) (h0s : p0.size ≤ 4294967280) (h1s : p1.size ≤ 4294967280) (h2s : p2.size ≤ 4294967280) (v0 : Int) (h0 : Lib.atoiAll p0.data.toList = .ok v0) (v1 : Int) (h1 : Lib.atoiAll p1.data.toList = .ok v1) (v2 : Int) (h2 : Lib.atoiAll p2.data.toList = .ok v2) (v : vld v0 v1 v2) (hq : (dtext v0 v1 v2 == s.toList) = false) :
    Calls Tryz.prog 27 #[.string s] w (Parsed w.heap.size w 0 0 0 (some 3)) := by
  have H := Lib.hid h
  clear h
  have n_ := Lib.hid h0
  clear h0
  have h0 := n_
  clear n_
  have n_ := Lib.hid h1
  clear h1
  have h1 := n_
  clear n_
  have n_ := Lib.hid h2
  clear h2
  have h2 := n_
  clear n_
  have hT := Aside0.mk (show civil_Text.f 2 v0 v1 v2 = some (⟨(dtext v0 v1 v2).toArray⟩, none) by rw [CivP.text 2 _ _ _ (by omega), if_pos v])
  clear v
  have HB := Aside0.mk (Below.refl w.heap.size w)
  have HL := Aside0.mk hl
  clear hl
  go_enter Tryz.func27, Tryz.ntmps27
  go_wp2_with (first | (go_at_call 96; (refine (split_3 s hs p0 p1 p2 H.out _ (Laid.below HL.out (by repeat (first | (with_reducible first | exact HB.out | apply below_alloc | apply pw_below_drewN | apply below_drew1 | refine below_set ?_ GA.out | refine below_set ?_ (Nat.le_refl _)) | exact HB.out)))).mono ?_); rintro e w1 ⟨g, rfl, hg, hc, hb⟩; have BG := Aside0.mk hc; have BK := Aside0.mk (blk_below (blk_new w _) hb); have n0_ := Aside0.mk (below_step (below_alloc HB.out _) hb); clear HB; have HB := n0_; clear n0_; clear hb hc hg; have z0 : w1.cell? ⟨w.heap.size, 0, none⟩ = some (.int .i64 0) := (blk_cell BK.out 0).trans rfl; have z1 : w1.cell? ⟨w.heap.size, 1, none⟩ = some (.int .i64 0) := (blk_cell BK.out 1).trans rfl; have z2 : w1.cell? ⟨w.heap.size, 2, none⟩ = some (.int .i64 0) := (blk_cell BK.out 2).trans rfl; have f0 := blk_frozen BK.out 0; have f1 := blk_frozen BK.out 1; have f2 := blk_frozen BK.out 2) | ((with_reducible refine gate_dst (N := 5) rfl ?_); refine box_event ?hg (N := 5) ?hd (cs := #[.int .i64 0, .int .i64 0, .int .i64 0]) (t := 164) ?hr ?_; (case hd => rfl); (case hg => rfl); (case hr => first | (go_simp; done) | (go_simp; rfl)); intro ga hga w2 hbox hb2; have GA := Aside0.mk (show w.heap.size ≤ ga by rw [hga]; exact below_size HB.out); have n0_ := Aside0.mk (below_step HB.out hb2); have n1_ := Aside0.mk (blk_below BK.out hb2); have n2_ := Aside0.mk (blk_below BG.out hb2); have BA := Aside0.mk hbox; clear HB BK BG z0 z1 z2 f0 f1 f2; have HB := n0_; have BK := n1_; have BG := n2_; clear n0_ n1_ n2_; clear hb2 hbox hga; have NKA := Aside0.mk (blk_ne BK.out BA.out (by decide)); have NGA := Aside0.mk (blk_ne BG.out BA.out (by decide)); have y0 : w2.cell? ⟨g, 0, none⟩ = some (.string p0) := (blk_cell BG.out 0).trans rfl; have y1 : w2.cell? ⟨g, 1, none⟩ = some (.string p1) := (blk_cell BG.out 1).trans rfl; have y2 : w2.cell? ⟨g, 2, none⟩ = some (.string p2) := (blk_cell BG.out 2).trans rfl; have x0 : w2.cell? ⟨ga, 0, none⟩ = some (.int .i64 0) := (blk_cell BA.out 0).trans rfl; have x1 : w2.cell? ⟨ga, 1, none⟩ = some (.int .i64 0) := (blk_cell BA.out 1).trans rfl; have x2 : w2.cell? ⟨ga, 2, none⟩ = some (.int .i64 0) := (blk_cell BA.out 2).trans rfl; have q0 := blk_frozen BA.out 0; have q1 := blk_frozen BA.out 1; have q2 := blk_frozen BA.out 2))
  refine wp_loop_rounds 4 ?_
  rw [rounds_succ]
  go_wp2_with (first | (go_at_call 97; (with_reducible refine (atoi_ok p0 h0s v0 h0.out _).mono ?_); rintro e w3 ⟨rfl, hb⟩; have n0_ := Aside0.mk (below_step HB.out hb); have n1_ := Aside0.mk (blk_below BK.out hb); have n2_ := Aside0.mk (blk_below BG.out hb); have n3_ := Aside0.mk (blk_below BA.out hb); clear HB BK BG BA y0 y1 y2 x0 x1 x2 q0 q1 q2; have HB := n0_; have BK := n1_; have BG := n2_; have BA := n3_; clear n0_ n1_ n2_ n3_; clear hb; have y0 : w3.cell? ⟨g, 0, none⟩ = some (.string p0) := (blk_cell BG.out 0).trans rfl; have y1 : w3.cell? ⟨g, 1, none⟩ = some (.string p1) := (blk_cell BG.out 1).trans rfl; have y2 : w3.cell? ⟨g, 2, none⟩ = some (.string p2) := (blk_cell BG.out 2).trans rfl; have x0 : w3.cell? ⟨ga, 0, none⟩ = some (.int .i64 0) := (blk_cell BA.out 0).trans rfl; have x1 : w3.cell? ⟨ga, 1, none⟩ = some (.int .i64 0) := (blk_cell BA.out 1).trans rfl; have x2 : w3.cell? ⟨ga, 2, none⟩ = some (.int .i64 0) := (blk_cell BA.out 2).trans rfl; have q0 := blk_frozen BA.out 0; have q1 := blk_frozen BA.out 1; have q2 := blk_frozen BA.out 2; have z0 : w3.cell? ⟨w.heap.size, 0, none⟩ = some (.int .i64 0) := (blk_cell BK.out 0).trans rfl; have z1 : w3.cell? ⟨w.heap.size, 1, none⟩ = some (.int .i64 0) := (blk_cell BK.out 1).trans rfl; have z2 : w3.cell? ⟨w.heap.size, 2, none⟩ = some (.int .i64 0) := (blk_cell BK.out 2).trans rfl; have f0 := blk_frozen BK.out 0; have f1 := blk_frozen BK.out 1; have f2 := blk_frozen BK.out 2))
  rw [rounds_succ]
  go_wp2_with (first | (go_at_call 97; (with_reducible refine (atoi_ok p1 h1s v1 h1.out _).mono ?_); rintro e w4 ⟨rfl, hb⟩; have n0_ := Aside0.mk (below_step (below_set HB.out GA.out) hb); have n1_ := Aside0.mk (blk_below (blk_far BK.out NKA.out _) hb); have n2_ := Aside0.mk (blk_below (blk_far BG.out NGA.out _) hb); have n3_ := Aside0.mk (blk_below (blk_put (cs' := #[.int .i64 v0, .int .i64 0, .int .i64 0]) BA.out 0 (.int .i64 v0) rfl) hb); clear HB BK BG BA y0 y1 y2 x0 x1 x2 q0 q1 q2; have HB := n0_; have BK := n1_; have BG := n2_; have BA := n3_; clear n0_ n1_ n2_ n3_; clear hb; have y0 : w4.cell? ⟨g, 0, none⟩ = some (.string p0) := (blk_cell BG.out 0).trans rfl; have y1 : w4.cell? ⟨g, 1, none⟩ = some (.string p1) := (blk_cell BG.out 1).trans rfl; have y2 : w4.cell? ⟨g, 2, none⟩ = some (.string p2) := (blk_cell BG.out 2).trans rfl; have x0 : w4.cell? ⟨ga, 0, none⟩ = some (.int .i64 v0) := (blk_cell BA.out 0).trans rfl; have x1 : w4.cell? ⟨ga, 1, none⟩ = some (.int .i64 0) := (blk_cell BA.out 1).trans rfl; have x2 : w4.cell? ⟨ga, 2, none⟩ = some (.int .i64 0) := (blk_cell BA.out 2).trans rfl; have q0 := blk_frozen BA.out 0; have q1 := blk_frozen BA.out 1; have q2 := blk_frozen BA.out 2; have z0 : w4.cell? ⟨w.heap.size, 0, none⟩ = some (.int .i64 0) := (blk_cell BK.out 0).trans rfl; have z1 : w4.cell? ⟨w.heap.size, 1, none⟩ = some (.int .i64 0) := (blk_cell BK.out 1).trans rfl; have z2 : w4.cell? ⟨w.heap.size, 2, none⟩ = some (.int .i64 0) := (blk_cell BK.out 2).trans rfl; have f0 := blk_frozen BK.out 0; have f1 := blk_frozen BK.out 1; have f2 := blk_frozen BK.out 2))
  rw [rounds_succ]
  go_wp2_with (first | (go_at_call 97; (with_reducible refine (atoi_ok p2 h2s v2 h2.out _).mono ?_); rintro e w5 ⟨rfl, hb⟩; have n0_ := Aside0.mk (below_step (below_set HB.out GA.out) hb); have n1_ := Aside0.mk (blk_below (blk_far BK.out NKA.out _) hb); have n2_ := Aside0.mk (blk_below (blk_far BG.out NGA.out _) hb); have n3_ := Aside0.mk (blk_below (blk_put (cs' := #[.int .i64 v0, .int .i64 v1, .int .i64 0]) BA.out 1 (.int .i64 v1) rfl) hb); clear HB BK BG BA y0 y1 y2 x0 x1 x2 q0 q1 q2; have HB := n0_; have BK := n1_; have BG := n2_; have BA := n3_; clear n0_ n1_ n2_ n3_; clear hb; have y0 : w5.cell? ⟨g, 0, none⟩ = some (.string p0) := (blk_cell BG.out 0).trans rfl; have y1 : w5.cell? ⟨g, 1, none⟩ = some (.string p1) := (blk_cell BG.out 1).trans rfl; have y2 : w5.cell? ⟨g, 2, none⟩ = some (.string p2) := (blk_cell BG.out 2).trans rfl; have x0 : w5.cell? ⟨ga, 0, none⟩ = some (.int .i64 v0) := (blk_cell BA.out 0).trans rfl; have x1 : w5.cell? ⟨ga, 1, none⟩ = some (.int .i64 v1) := (blk_cell BA.out 1).trans rfl; have x2 : w5.cell? ⟨ga, 2, none⟩ = some (.int .i64 0) := (blk_cell BA.out 2).trans rfl; have q0 := blk_frozen BA.out 0; have q1 := blk_frozen BA.out 1; have q2 := blk_frozen BA.out 2; have z0 : w5.cell? ⟨w.heap.size, 0, none⟩ = some (.int .i64 0) := (blk_cell BK.out 0).trans rfl; have z1 : w5.cell? ⟨w.heap.size, 1, none⟩ = some (.int .i64 0) := (blk_cell BK.out 1).trans rfl; have z2 : w5.cell? ⟨w.heap.size, 2, none⟩ = some (.int .i64 0) := (blk_cell BK.out 2).trans rfl; have f0 := blk_frozen BK.out 0; have f1 := blk_frozen BK.out 1; have f2 := blk_frozen BK.out 2))
  rw [rounds_succ]
  go_wp2_with (first | (go_at_call 26; (with_reducible refine (civil_Text.calls 2 v0 v1 v2 ⟨(dtext v0 v1 v2).toArray⟩ none _ (Laid.below HL.out (by repeat (first | (with_reducible first | exact HB.out | apply below_alloc | apply pw_below_drewN | apply below_drew1 | refine below_set ?_ GA.out | refine below_set ?_ (Nat.le_refl _)) | exact HB.out))) hT.out).mono ?_); rintro e w6 ⟨rfl, hb⟩; (try simp only [errW_none, errW_some]); have n0_ := Aside0.mk (below_step (by repeat (first | (with_reducible first | exact HB.out | apply below_alloc | refine below_set ?_ GA.out) | exact HB.out)) hb); have n1_ := Aside0.mk (blk_below (blk_alloc (blk_far (p := ⟨ga, 2, none⟩) BK.out NKA.out (.int .i64 v2)) _) hb); have n2_ := Aside0.mk (show w6.heap[w5.heap.size]? = some (.cells #[.int .i64 v0, .int .i64 v1, .int .i64 v2] 26 (0, 0)) from by have q_ := blk_below (blk_new _ _) hb; simpa [World.setCell] using q_); clear HB BK; have HB := n0_; have BK := n1_; have BD := n2_; clear n0_ n1_ n2_; clear hb; have z0 : w6.cell? ⟨w.heap.size, 0, none⟩ = some (.int .i64 0) := (blk_cell BK.out 0).trans rfl; have z1 : w6.cell? ⟨w.heap.size, 1, none⟩ = some (.int .i64 0) := (blk_cell BK.out 1).trans rfl; have z2 : w6.cell? ⟨w.heap.size, 2, none⟩ = some (.int .i64 0) := (blk_cell BK.out 2).trans rfl; have f0 := blk_frozen BK.out 0; have f1 := blk_frozen BK.out 1; have f2 := blk_frozen BK.out 2; have d0 : w6.cell? ⟨w5.heap.size, 0, none⟩ = some (.int .i64 v0) := (blk_cell BD.out 0).trans rfl; have d1 : w6.cell? ⟨w5.heap.size, 1, none⟩ = some (.int .i64 v1) := (blk_cell BD.out 1).trans rfl; have d2 : w6.cell? ⟨w5.heap.size, 2, none⟩ = some (.int .i64 v2) := (blk_cell BD.out 2).trans rfl; have r0 := blk_frozen BD.out 0; have r1 := blk_frozen BD.out 1; have r2 := blk_frozen BD.out 2))
  refine bodyPost_ret (results_ct rfl _ _ w.heap.size 26 #[.int .i64 0, .int .i64 0, .int .i64 0] (0, 0) _ rfl (by refine blk_put (cs := #[.int .i64 0, .int .i64 0, .int .i64 0]) ?_ 2 _ rfl; refine blk_put (cs := #[.int .i64 0, .int .i64 0, .int .i64 0]) ?_ 1 _ rfl; refine blk_put (cs := #[.int .i64 0, .int .i64 0, .int .i64 0]) ?_ 0 _ rfl; exact BK.out) Tryz.underlying26 rfl (by kernel_rfl)) rfl ?_
  exact ⟨rfl, by repeat (first | exact HB.out | refine below_set ?_ (Nat.le_refl _))⟩

set_option maxHeartbeats 8000000 in
set_option maxRecDepth 100000 in
theorem parse_eq (s : ByteArray) (w : World) (hl : Laid w) (hs : s.size < 4294967281) (p0 p1 p2 : ByteArray) (h : Lib.splitB ⟨#[45]⟩ 0 (Lib.countB s ⟨#[45]⟩) s = [p0, p1, p2]) (h0s : p0.size ≤ 4294967280) (h1s : p1.size ≤ 4294967280) (h2s : p2.size ≤ 4294967280) (v0 : Int) (h0 : Lib.atoiAll p0.data.toList = .ok v0) (v1 : Int) (h1 : Lib.atoiAll p1.data.toList = .ok v1) (v2 : Int) (h2 : Lib.atoiAll p2.data.toList = .ok v2) (v : vld v0 v1 v2) (hq : (dtext v0 v1 v2 == s.toList) = true) :
    Calls Tryz.prog 27 #[.string s] w (Parsed w.heap.size w v0 v1 v2 none) := by
  have H := Lib.hid h
  clear h
  have n_ := Lib.hid h0
  clear h0
  have h0 := n_
  clear n_
  have n_ := Lib.hid h1
  clear h1
  have h1 := n_
  clear n_
  have n_ := Lib.hid h2
  clear h2
  have h2 := n_
  clear n_
  have hT := Aside0.mk (show civil_Text.f 2 v0 v1 v2 = some (⟨(dtext v0 v1 v2).toArray⟩, none) by rw [CivP.text 2 _ _ _ (by omega), if_pos v])
  clear v
  have HB := Aside0.mk (Below.refl w.heap.size w)
  have HL := Aside0.mk hl
  clear hl
  go_enter Tryz.func27, Tryz.ntmps27
  go_wp2_with (first | (go_at_call 96; (refine (split_3 s hs p0 p1 p2 H.out _ (Laid.below HL.out (by repeat (first | (with_reducible first | exact HB.out | apply below_alloc | apply pw_below_drewN | apply below_drew1 | refine below_set ?_ GA.out | refine below_set ?_ (Nat.le_refl _)) | exact HB.out)))).mono ?_); rintro e w1 ⟨g, rfl, hg, hc, hb⟩; have BG := Aside0.mk hc; have BK := Aside0.mk (blk_below (blk_new w _) hb); have n0_ := Aside0.mk (below_step (below_alloc HB.out _) hb); clear HB; have HB := n0_; clear n0_; clear hb hc hg; have z0 : w1.cell? ⟨w.heap.size, 0, none⟩ = some (.int .i64 0) := (blk_cell BK.out 0).trans rfl; have z1 : w1.cell? ⟨w.heap.size, 1, none⟩ = some (.int .i64 0) := (blk_cell BK.out 1).trans rfl; have z2 : w1.cell? ⟨w.heap.size, 2, none⟩ = some (.int .i64 0) := (blk_cell BK.out 2).trans rfl; have f0 := blk_frozen BK.out 0; have f1 := blk_frozen BK.out 1; have f2 := blk_frozen BK.out 2) | ((with_reducible refine gate_dst (N := 5) rfl ?_); refine box_event ?hg (N := 5) ?hd (cs := #[.int .i64 0, .int .i64 0, .int .i64 0]) (t := 164) ?hr ?_; (case hd => rfl); (case hg => rfl); (case hr => first | (go_simp; done) | (go_simp; rfl)); intro ga hga w2 hbox hb2; have GA := Aside0.mk (show w.heap.size ≤ ga by rw [hga]; exact below_size HB.out); have n0_ := Aside0.mk (below_step HB.out hb2); have n1_ := Aside0.mk (blk_below BK.out hb2); have n2_ := Aside0.mk (blk_below BG.out hb2); have BA := Aside0.mk hbox; clear HB BK BG z0 z1 z2 f0 f1 f2; have HB := n0_; have BK := n1_; have BG := n2_; clear n0_ n1_ n2_; clear hb2 hbox hga; have NKA := Aside0.mk (blk_ne BK.out BA.out (by decide)); have NGA := Aside0.mk (blk_ne BG.out BA.out (by decide)); have y0 : w2.cell? ⟨g, 0, none⟩ = some (.string p0) := (blk_cell BG.out 0).trans rfl; have y1 : w2.cell? ⟨g, 1, none⟩ = some (.string p1) := (blk_cell BG.out 1).trans rfl; have y2 : w2.cell? ⟨g, 2, none⟩ = some (.string p2) := (blk_cell BG.out 2).trans rfl; have x0 : w2.cell? ⟨ga, 0, none⟩ = some (.int .i64 0) := (blk_cell BA.out 0).trans rfl; have x1 : w2.cell? ⟨ga, 1, none⟩ = some (.int .i64 0) := (blk_cell BA.out 1).trans rfl; have x2 : w2.cell? ⟨ga, 2, none⟩ = some (.int .i64 0) := (blk_cell BA.out 2).trans rfl; have q0 := blk_frozen BA.out 0; have q1 := blk_frozen BA.out 1; have q2 := blk_frozen BA.out 2))
  refine wp_loop_rounds 4 ?_
  rw [rounds_succ]
  go_wp2_with (first | (go_at_call 97; (with_reducible refine (atoi_ok p0 h0s v0 h0.out _).mono ?_); rintro e w3 ⟨rfl, hb⟩; have n0_ := Aside0.mk (below_step HB.out hb); have n1_ := Aside0.mk (blk_below BK.out hb); have n2_ := Aside0.mk (blk_below BG.out hb); have n3_ := Aside0.mk (blk_below BA.out hb); clear HB BK BG BA y0 y1 y2 x0 x1 x2 q0 q1 q2; have HB := n0_; have BK := n1_; have BG := n2_; have BA := n3_; clear n0_ n1_ n2_ n3_; clear hb; have y0 : w3.cell? ⟨g, 0, none⟩ = some (.string p0) := (blk_cell BG.out 0).trans rfl; have y1 : w3.cell? ⟨g, 1, none⟩ = some (.string p1) := (blk_cell BG.out 1).trans rfl; have y2 : w3.cell? ⟨g, 2, none⟩ = some (.string p2) := (blk_cell BG.out 2).trans rfl; have x0 : w3.cell? ⟨ga, 0, none⟩ = some (.int .i64 0) := (blk_cell BA.out 0).trans rfl; have x1 : w3.cell? ⟨ga, 1, none⟩ = some (.int .i64 0) := (blk_cell BA.out 1).trans rfl; have x2 : w3.cell? ⟨ga, 2, none⟩ = some (.int .i64 0) := (blk_cell BA.out 2).trans rfl; have q0 := blk_frozen BA.out 0; have q1 := blk_frozen BA.out 1; have q2 := blk_frozen BA.out 2; have z0 : w3.cell? ⟨w.heap.size, 0, none⟩ = some (.int .i64 0) := (blk_cell BK.out 0).trans rfl; have z1 : w3.cell? ⟨w.heap.size, 1, none⟩ = some (.int .i64 0) := (blk_cell BK.out 1).trans rfl; have z2 : w3.cell? ⟨w.heap.size, 2, none⟩ = some (.int .i64 0) := (blk_cell BK.out 2).trans rfl; have f0 := blk_frozen BK.out 0; have f1 := blk_frozen BK.out 1; have f2 := blk_frozen BK.out 2))
  rw [rounds_succ]
  go_wp2_with (first | (go_at_call 97; (with_reducible refine (atoi_ok p1 h1s v1 h1.out _).mono ?_); rintro e w4 ⟨rfl, hb⟩; have n0_ := Aside0.mk (below_step (below_set HB.out GA.out) hb); have n1_ := Aside0.mk (blk_below (blk_far BK.out NKA.out _) hb); have n2_ := Aside0.mk (blk_below (blk_far BG.out NGA.out _) hb); have n3_ := Aside0.mk (blk_below (blk_put (cs' := #[.int .i64 v0, .int .i64 0, .int .i64 0]) BA.out 0 (.int .i64 v0) rfl) hb); clear HB BK BG BA y0 y1 y2 x0 x1 x2 q0 q1 q2; have HB := n0_; have BK := n1_; have BG := n2_; have BA := n3_; clear n0_ n1_ n2_ n3_; clear hb; have y0 : w4.cell? ⟨g, 0, none⟩ = some (.string p0) := (blk_cell BG.out 0).trans rfl; have y1 : w4.cell? ⟨g, 1, none⟩ = some (.string p1) := (blk_cell BG.out 1).trans rfl; have y2 : w4.cell? ⟨g, 2, none⟩ = some (.string p2) := (blk_cell BG.out 2).trans rfl; have x0 : w4.cell? ⟨ga, 0, none⟩ = some (.int .i64 v0) := (blk_cell BA.out 0).trans rfl; have x1 : w4.cell? ⟨ga, 1, none⟩ = some (.int .i64 0) := (blk_cell BA.out 1).trans rfl; have x2 : w4.cell? ⟨ga, 2, none⟩ = some (.int .i64 0) := (blk_cell BA.out 2).trans rfl; have q0 := blk_frozen BA.out 0; have q1 := blk_frozen BA.out 1; have q2 := blk_frozen BA.out 2; have z0 : w4.cell? ⟨w.heap.size, 0, none⟩ = some (.int .i64 0) := (blk_cell BK.out 0).trans rfl; have z1 : w4.cell? ⟨w.heap.size, 1, none⟩ = some (.int .i64 0) := (blk_cell BK.out 1).trans rfl; have z2 : w4.cell? ⟨w.heap.size, 2, none⟩ = some (.int .i64 0) := (blk_cell BK.out 2).trans rfl; have f0 := blk_frozen BK.out 0; have f1 := blk_frozen BK.out 1; have f2 := blk_frozen BK.out 2))
  rw [rounds_succ]
  go_wp2_with (first | (go_at_call 97; (with_reducible refine (atoi_ok p2 h2s v2 h2.out _).mono ?_); rintro e w5 ⟨rfl, hb⟩; have n0_ := Aside0.mk (below_step (below_set HB.out GA.out) hb); have n1_ := Aside0.mk (blk_below (blk_far BK.out NKA.out _) hb); have n2_ := Aside0.mk (blk_below (blk_far BG.out NGA.out _) hb); have n3_ := Aside0.mk (blk_below (blk_put (cs' := #[.int .i64 v0, .int .i64 v1, .int .i64 0]) BA.out 1 (.int .i64 v1) rfl) hb); clear HB BK BG BA y0 y1 y2 x0 x1 x2 q0 q1 q2; have HB := n0_; have BK := n1_; have BG := n2_; have BA := n3_; clear n0_ n1_ n2_ n3_; clear hb; have y0 : w5.cell? ⟨g, 0, none⟩ = some (.string p0) := (blk_cell BG.out 0).trans rfl; have y1 : w5.cell? ⟨g, 1, none⟩ = some (.string p1) := (blk_cell BG.out 1).trans rfl; have y2 : w5.cell? ⟨g, 2, none⟩ = some (.string p2) := (blk_cell BG.out 2).trans rfl; have x0 : w5.cell? ⟨ga, 0, none⟩ = some (.int .i64 v0) := (blk_cell BA.out 0).trans rfl; have x1 : w5.cell? ⟨ga, 1, none⟩ = some (.int .i64 v1) := (blk_cell BA.out 1).trans rfl; have x2 : w5.cell? ⟨ga, 2, none⟩ = some (.int .i64 0) := (blk_cell BA.out 2).trans rfl; have q0 := blk_frozen BA.out 0; have q1 := blk_frozen BA.out 1; have q2 := blk_frozen BA.out 2; have z0 : w5.cell? ⟨w.heap.size, 0, none⟩ = some (.int .i64 0) := (blk_cell BK.out 0).trans rfl; have z1 : w5.cell? ⟨w.heap.size, 1, none⟩ = some (.int .i64 0) := (blk_cell BK.out 1).trans rfl; have z2 : w5.cell? ⟨w.heap.size, 2, none⟩ = some (.int .i64 0) := (blk_cell BK.out 2).trans rfl; have f0 := blk_frozen BK.out 0; have f1 := blk_frozen BK.out 1; have f2 := blk_frozen BK.out 2))
  rw [rounds_succ]
  go_wp2_with (first | (go_at_call 26; (with_reducible refine (civil_Text.calls 2 v0 v1 v2 ⟨(dtext v0 v1 v2).toArray⟩ none _ (Laid.below HL.out (by repeat (first | (with_reducible first | exact HB.out | apply below_alloc | apply pw_below_drewN | apply below_drew1 | refine below_set ?_ GA.out | refine below_set ?_ (Nat.le_refl _)) | exact HB.out))) hT.out).mono ?_); rintro e w6 ⟨rfl, hb⟩; (try simp only [errW_none, errW_some]); have n0_ := Aside0.mk (below_step (by repeat (first | (with_reducible first | exact HB.out | apply below_alloc | refine below_set ?_ GA.out) | exact HB.out)) hb); have n1_ := Aside0.mk (blk_below (blk_alloc (blk_far (p := ⟨ga, 2, none⟩) BK.out NKA.out (.int .i64 v2)) _) hb); have n2_ := Aside0.mk (show w6.heap[w5.heap.size]? = some (.cells #[.int .i64 v0, .int .i64 v1, .int .i64 v2] 26 (0, 0)) from by have q_ := blk_below (blk_new _ _) hb; simpa [World.setCell] using q_); clear HB BK; have HB := n0_; have BK := n1_; have BD := n2_; clear n0_ n1_ n2_; clear hb; have z0 : w6.cell? ⟨w.heap.size, 0, none⟩ = some (.int .i64 0) := (blk_cell BK.out 0).trans rfl; have z1 : w6.cell? ⟨w.heap.size, 1, none⟩ = some (.int .i64 0) := (blk_cell BK.out 1).trans rfl; have z2 : w6.cell? ⟨w.heap.size, 2, none⟩ = some (.int .i64 0) := (blk_cell BK.out 2).trans rfl; have f0 := blk_frozen BK.out 0; have f1 := blk_frozen BK.out 1; have f2 := blk_frozen BK.out 2; have d0 : w6.cell? ⟨w5.heap.size, 0, none⟩ = some (.int .i64 v0) := (blk_cell BD.out 0).trans rfl; have d1 : w6.cell? ⟨w5.heap.size, 1, none⟩ = some (.int .i64 v1) := (blk_cell BD.out 1).trans rfl; have d2 : w6.cell? ⟨w5.heap.size, 2, none⟩ = some (.int .i64 v2) := (blk_cell BD.out 2).trans rfl; have r0 := blk_frozen BD.out 0; have r1 := blk_frozen BD.out 1; have r2 := blk_frozen BD.out 2))
  refine bodyPost_ret (results_ct rfl _ _ w.heap.size 26 #[.int .i64 v0, .int .i64 v1, .int .i64 v2] (0, 0) _ rfl (by refine blk_put (cs := #[.int .i64 v0, .int .i64 v1, .int .i64 0]) ?_ 2 _ rfl; refine blk_put (cs := #[.int .i64 v0, .int .i64 0, .int .i64 0]) ?_ 1 _ rfl; refine blk_put (cs := #[.int .i64 0, .int .i64 0, .int .i64 0]) ?_ 0 _ rfl; exact BK.out) Tryz.underlying26 rfl (by kernel_rfl)) rfl ?_
  exact ⟨rfl, by repeat (first | exact HB.out | refine below_set ?_ (Nat.le_refl _))⟩

theorem extract_le (s : ByteArray) (a b : Nat) : (s.extract a b).size ≤ s.size := by rw [ByteArray.size_extract]; omega
theorem splitB_size (sep : ByteArray) : ∀ (k : Nat) (s p : ByteArray), p ∈ Lib.splitB sep 0 k s → p.size ≤ s.size
  | 0, s, p, h => by simp [Lib.splitB] at h; rw [h]; exact Nat.le_refl _
  | k + 1, s, p, h => by
    unfold Lib.splitB at h
    split at h
    · simp at h; rw [h]; exact Nat.le_refl _
    · rcases List.mem_cons.1 h with rfl | h
      · exact extract_le _ _ _
      · exact Nat.le_trans (splitB_size sep k _ p h) (extract_le _ _ _)
theorem civil_Parse.calls (a0 : ByteArray) (r1 r2 r3 : Int) (r4 : Option Int) (w : World) (hl_ : Laid w) (h : civil_Parse.f a0 = some (r1, r2, r3, r4)) :
    Calls Tryz.prog 27 #[.string a0] w fun e w' => e = .returned (.tuple #[.agg #[.int .i64 r1, .int .i64 r2, .int .i64 r3], errW r4]) ∧ Below w.heap.size w w' := by
  unfold civil_Parse.f at h
  split at h
  rotate_left
  · cases h
  rename_i hs
  obtain ⟨l, hsp⟩ : ∃ l, Lib.splitB ⟨#[45]⟩ 0 (Lib.countB a0 ⟨#[45]⟩) a0 = l := ⟨_, rfl⟩
  have hC := splitB_eq 45 a0
  rw [hsp] at hC
  have none_of : dateOf a0.data.toList = none → some (0, 0, 0, some 3) = some (r1, r2, r3, r4) := fun e => by rw [e] at h; exact h
  by_cases hn : l.length = 3
  rotate_left
  · have hd : dateOf a0.data.toList = none := by
      cases hd : dateOf a0.data.toList with
      | none => rfl
      | some t =>
        obtain ⟨y, m, d⟩ := t
        obtain ⟨_, _, p0, p1, p2, e, _⟩ := dateOf_some hd
        rw [e] at hC
        have := congrArg List.length hC
        simp at this; omega
    have e := none_of hd
    simp only [Option.some.injEq, Prod.mk.injEq] at e
    obtain ⟨rfl, rfl, rfl, rfl⟩ := e
    exact parse_len a0 w hl_ hs l hsp (by simp; omega)
  · match l, hn with
    | [p0, p1, p2], _ =>
      have hz : ∀ p ∈ [p0, p1, p2], p.size ≤ 4294967280 := fun p hp => by
        have := splitB_size ⟨#[45]⟩ _ a0 p (by rw [hsp]; exact hp)
        omega
      have z0 := hz p0 (by simp)
      have z1 := hz p1 (by simp)
      have z2 := hz p2 (by simp)
      simp only [List.map_cons, List.map_nil] at hC
      have bad : (∀ y m d, ¬ (Lib.atoiAll p0.data.toList = .ok y ∧ Lib.atoiAll p1.data.toList = .ok m ∧ Lib.atoiAll p2.data.toList = .ok d)) → r1 = 0 ∧ r2 = 0 ∧ r3 = 0 ∧ r4 = some 3 := by
        intro hno
        have hd : dateOf a0.data.toList = none := by
          cases hd : dateOf a0.data.toList with
          | none => rfl
          | some t =>
            obtain ⟨y, m, d⟩ := t
            obtain ⟨_, _, q0, q1, q2, e, a1, a2, a3⟩ := dateOf_some hd
            rw [e] at hC
            simp only [List.cons.injEq, and_true] at hC
            obtain ⟨rfl, rfl, rfl⟩ := hC
            exact absurd ⟨a1, a2, a3⟩ (hno y m d)
        have e := none_of hd
        simp only [Option.some.injEq, Prod.mk.injEq] at e
        obtain ⟨rfl, rfl, rfl, rfl⟩ := e
        exact ⟨rfl, rfl, rfl, rfl⟩
      by_cases c0 : ∃ v, Lib.atoiAll p0.data.toList = .ok v
      rotate_left
      · obtain ⟨rfl, rfl, rfl, rfl⟩ := bad (fun y m d e => c0 ⟨y, e.1⟩)
        exact parse_bad0 a0 w hl_ hs p0 p1 p2 hsp z0 z1 z2 (fun v e => c0 ⟨v, e⟩)
      obtain ⟨v0, h0⟩ := c0
      by_cases c1 : ∃ v, Lib.atoiAll p1.data.toList = .ok v
      rotate_left
      · obtain ⟨rfl, rfl, rfl, rfl⟩ := bad (fun y m d e => c1 ⟨m, e.2.1⟩)
        exact parse_bad1 a0 w hl_ hs p0 p1 p2 hsp z0 z1 z2 v0 h0 (fun v e => c1 ⟨v, e⟩)
      obtain ⟨v1, h1⟩ := c1
      by_cases c2 : ∃ v, Lib.atoiAll p2.data.toList = .ok v
      rotate_left
      · obtain ⟨rfl, rfl, rfl, rfl⟩ := bad (fun y m d e => c2 ⟨d, e.2.2⟩)
        exact parse_bad2 a0 w hl_ hs p0 p1 p2 hsp z0 z1 z2 v0 h0 v1 h1 (fun v e => c2 ⟨v, e⟩)
      obtain ⟨v2, h2⟩ := c2
      have hd := dateOf_iff hC.symm h0 h1 h2
      have hS : a0.toList = a0.data.toList := ByteArray.toList_eq a0
      by_cases v : vld v0 v1 v2
      rotate_left
      · rw [if_neg (fun c => v c.1)] at hd
        have e := none_of hd
        simp only [Option.some.injEq, Prod.mk.injEq] at e
        obtain ⟨rfl, rfl, rfl, rfl⟩ := e
        exact parse_inv a0 w hl_ hs p0 p1 p2 hsp z0 z1 z2 v0 h0 v1 h1 v2 h2 v
      by_cases q : dtext v0 v1 v2 = a0.data.toList
      · rw [if_pos ⟨v, q⟩] at hd
        rw [hd] at h
        simp only [Option.some.injEq, Prod.mk.injEq] at h
        obtain ⟨rfl, rfl, rfl, rfl⟩ := h
        exact parse_eq a0 w hl_ hs p0 p1 p2 hsp z0 z1 z2 v0 h0 v1 h1 v2 h2 v (by rw [hS, q]; simp)
      · rw [if_neg (fun c => q c.2)] at hd
        have e := none_of hd
        simp only [Option.some.injEq, Prod.mk.injEq] at e
        obtain ⟨rfl, rfl, rfl, rfl⟩ := e
        exact parse_ne a0 w hl_ hs p0 p1 p2 hsp z0 z1 z2 v0 h0 v1 h1 v2 h2 v (by rw [hS]; simpa using q)
end Go.Proofs.YtfjifhkgifefeaaGreatDoor.Giv
end

