/- Any moment as a text, that of any text, any length as a text, and that of any text, or the errors. -/
import Derived.Test.YtfjifhkgifefeaaGreatDoorZTt0
import Derived.Lib.SplitLaws
import Derived.Lib.ItoaNum
import Derived.Lib.Repeat
import Derived.Lib.AtoiTie
import Derived.Test.YtfjifhkgifefeaaGreatDoorProg
import Derived.WalkKit
import Derived.LaidEql
import Derived.Stop.Asserts
import Derived.RowKitTokens
import Derived.Shelf.Strings.Builder1
import Derived.Shelf.Strings.Builder2
import Derived.Shelf.Strings.OnBuilder
import Derived.Shelf.Strings.Trim
import Derived.Shelf.Small.Utf8
import Derived.Shelf.Small.Strs
import Derived.Shelf.Small.Wraps
import Derived.Shelf.Strings.BuilderF
import Derived.Shelf.Strings.BuilderK
import Derived.Shelf.Strconv.Atoi
import Derived.Shelf.Strconv.Itoa0
import Derived.Shelf.Strconv.Itoa1
import Derived.Shelf.LaysM
import Derived.Shelf.Strconv.Itoa2
import Derived.Shelf.Strconv.Itoa3
import Derived.Shelf.Strconv.Itoa4
import Derived.Shelf.Strconv.AtoiErrFast
import Derived.Shelf.Strconv.ParseIntEmpty
import Derived.Shelf.Strconv.AtoiFail
import Derived.Shelf.Strconv.Clone
import Derived.Shelf.Strconv.SyntaxError
import Derived.Shelf.LaysC
import Derived.Shelf.Strconv.ToError
import Derived.Shelf.Strconv.Lower
import Derived.Shelf.Strconv.ParseUint10
import Derived.Shelf.Strconv.ParseUint10Empty
import Derived.Shelf.Strconv.ParseUint10Any
import Derived.Shelf.Strconv.ParseInt10
import Derived.Shelf.Strconv.AtoiLong
import Derived.Shelf.Strconv.AtoiInnerAll
import Derived.Shelf.Strconv.RangeError
import Derived.Shelf.Strconv.ToErrorRange
import Derived.Shelf.Strconv.AtoiAll
import Derived.Shelf.Strconv.ErrVarAll
import Derived.Shelf.Strconv.ParseUintEmpty
import Derived.Shelf.Strconv.ParseUint10b64
import Derived.Shelf.Strconv.ParseUint10b32
import Derived.Shelf.Strconv.ParseUint10b16
import Derived.Shelf.Strconv.ParseUint10b8
import Derived.Shelf.Strconv.ParseUint10At
import Derived.Shelf.Strconv.ParseInt10At64
import Derived.Shelf.Strconv.ParseInt10At32
import Derived.Shelf.Strconv.ParseInt10At16
import Derived.Shelf.Strconv.ParseInt10At8
import Derived.Shelf.Strconv.ParseInt10All
import Derived.Shelf.Strconv.ParseIntPublic10
import Derived.Shelf.Strconv.ErrVarParseInt
import Derived.Shelf.Strings.Search1
import Derived.Shelf.Strings.Search2
import Derived.Shelf.Strings.Search3
import Derived.Shelf.Strings.Cut
import Derived.Shelf.Strings.Count
import Derived.Shelf.Strings.Shaped
import Derived.Shelf.GgClosure.StringsIndexFunc
import Derived.Ground.GgwProg
import Derived.Shelf.GgClosure.StringsIndexFuncTop
import Derived.Shelf.Strings.Prefix
import Derived.Shelf.Strings.Split
import Derived.Shelf.Strings.SplitShaped
import Derived.Shelf.Unicode.Decode
import Derived.Shelf.Strings.Runes
import Derived.Shelf.Strings.RuneCount
import Derived.Shelf.Strings.AsciiSet
import Derived.Shelf.Strings.Explode
import Derived.Shelf.Bits.Mul64
import Derived.Shelf.Strings.Repeat
import Derived.Shelf.Unicode.DecodeSlow
import Derived.Shelf.Strings.FieldsFuncAny
import Derived.ChangeAgain
import Derived.Lib.AppendIntMem
import Derived.Below
import Derived.Deep.Draws
import Derived.Deep.AppendLies
import Derived.Maps.AppendAt
import Derived.OwnWalk
import Derived.Laws.BytesArg
import Derived.Laws.MakeOwn
import Derived.Laws.OwnMore
import Derived.Deep.OwnRows
import Derived.Tactics
import Derived.Lib.ConvBytes
import Derived.Laws.Slices
import Derived.KernelRfl
import Derived.RowKit3
import Derived.Deep.LoopGhost
import Derived.Deep.QuietTactic
import Derived.BigQuiet
import Derived.WideLaws
import Derived.Deep.DeepCutAuto
import Derived.Deep.CutBlock
import Derived.Deep.RegionHeld3
import Derived.Laws.Rows
import Derived.Lib.AppendStr
import Derived.ArgAppend
import Derived.Laws.IdiomCopy
import Derived.OrdersHeld
import Derived.Laws.BitsLemmas
import Derived.RowKit
set_option maxHeartbeats 8000000
set_option maxRecDepth 100000
set_option linter.unusedVariables false
set_option linter.unusedSimpArgs false
section
/- Dates, in plain Lean: how many days a date is behind 1970-01-01, the date of a day, and that each comes back from the other. -/
namespace Go.Proofs.YtfjifhkgifefeaaGreatDoor.CivM
def lpI (y : Int) : Int := if y % 4 = 0 ∧ (y % 100 ≠ 0 ∨ y % 400 = 0) then 1 else 0
def dim (y m : Int) : Int :=
  if m = 2 then 28 + lpI y else if m = 4 ∨ m = 6 ∨ m = 9 ∨ m = 11 then 30 else if 1 ≤ m ∧ m ≤ 12 then 31 else 0
def cum (y m : Int) : Int :=
  if m ≤ 1 then 0 else if m = 2 then 31 else if m = 3 then 59 + lpI y else if m = 4 then 90 + lpI y else if m = 5 then 120 + lpI y else if m = 6 then 151 + lpI y
  else if m = 7 then 181 + lpI y else if m = 8 then 212 + lpI y else if m = 9 then 243 + lpI y else if m = 10 then 273 + lpI y else if m = 11 then 304 + lpI y else if m = 12 then 334 + lpI y else 365 + lpI y
def dby (y : Int) : Int := 365 * (y - 1) + (y - 1) / 4 - (y - 1) / 100 + (y - 1) / 400
def num (y m d : Int) : Int := dby y + cum y m + d - 1 - 719162
def vld (y m d : Int) : Prop := 1 ≤ y ∧ y ≤ 9999 ∧ 1 ≤ m ∧ m ≤ 12 ∧ 1 ≤ d ∧ d ≤ dim y m
instance (y m d : Int) : Decidable (vld y m d) := by unfold vld; infer_instance
theorem lpI_01 (y : Int) : 0 ≤ lpI y ∧ lpI y ≤ 1 := by unfold lpI; split <;> omega
theorem dby_succ (y : Int) : dby (y + 1) = dby y + 365 + lpI y := by
  unfold dby lpI
  split <;> omega
theorem cum_succ (y m : Int) (h1 : 1 ≤ m) (h2 : m ≤ 12) : cum y (m + 1) = cum y m + dim y m := by
  have := lpI_01 y
  obtain rfl | rfl | rfl | rfl | rfl | rfl | rfl | rfl | rfl | rfl | rfl | rfl : m = 1 ∨ m = 2 ∨ m = 3 ∨ m = 4 ∨ m = 5 ∨ m = 6 ∨ m = 7 ∨ m = 8 ∨ m = 9 ∨ m = 10 ∨ m = 11 ∨ m = 12 := by omega
  all_goals simp [cum, dim]
  all_goals omega
theorem dim_bd (y m : Int) : 0 ≤ dim y m ∧ dim y m ≤ 31 := by
  have := lpI_01 y
  unfold dim; split
  · omega
  · split
    · omega
    · split <;> omega
theorem dim_pos (y m : Int) (h1 : 1 ≤ m) (h2 : m ≤ 12) : 28 ≤ dim y m := by
  have := lpI_01 y
  unfold dim; split
  · omega
  · split
    · omega
    · split <;> omega
theorem cum_one (y : Int) : cum y 1 = 0 := by simp [cum]
theorem cum_13 (y : Int) : cum y 13 = 365 + lpI y := by simp [cum]
theorem dim_out (y m : Int) (h : m < 1 ∨ 12 < m) : dim y m = 0 := by
  unfold dim
  rw [if_neg (by omega), if_neg (by omega), if_neg (by omega)]
theorem cum_mono (y a b : Int) (h1 : 1 ≤ a) (h : a < b) (h2 : b ≤ 13) : cum y a + dim y a ≤ cum y b := by
  obtain ⟨k, rfl⟩ : ∃ k : Nat, b = a + 1 + k := ⟨(b - a - 1).toNat, by omega⟩
  clear h
  induction k with
  | zero => rw [← cum_succ y a h1 (by omega)]; simp
  | succ k ih =>
    have := ih (by omega); have e := cum_succ y (a + 1 + k) (by omega) (by omega); have := (dim_bd y (a + 1 + k)).1
    have e2 : a + 1 + (k + 1 : Nat) = a + 1 + k + 1 := by omega
    rw [e2, e]; omega
theorem dby_mono (a b : Int) (h : a ≤ b) : dby a ≤ dby b := by unfold dby; omega
theorem cum_le (y m d : Int) (h1 : 1 ≤ m) (h2 : m ≤ 12) (h3 : 1 ≤ d) (h4 : d ≤ dim y m) : 0 ≤ cum y m + d - 1 ∧ cum y m + d - 1 < 365 + lpI y := by
  have := cum_succ y m h1 h2
  have hb : cum y (m + 1) ≤ 365 + lpI y := by
    by_cases e : m = 12
    · subst e; rw [show (12 : Int) + 1 = 13 by rfl, cum_13]; omega
    · have := cum_mono y (m + 1) 13 (by omega) (by omega) (by omega); have := (dim_bd y (m + 1)).1; rw [cum_13] at *; omega
  have h0 : 0 ≤ cum y m := by
    by_cases e : m = 1
    · subst e; rw [cum_one]; omega
    · have := cum_mono y 1 m (by omega) (by omega) (by omega); have := (dim_bd y 1).1; rw [cum_one] at *; omega
  omega
theorem num_lt_year {y m d y' m' d' : Int} (h : vld y m d) (h' : vld y' m' d') (hy : y < y') : num y m d < num y' m' d' := by
  obtain ⟨_, _, a1, a2, a3, a4⟩ := h; obtain ⟨_, _, b1, b2, b3, b4⟩ := h'; have c := cum_le y m d a1 a2 a3 a4; have c' := cum_le y' m' d' b1 b2 b3 b4; have e := dby_succ y; have e' := dby_mono (y + 1) y' (by omega)
  unfold num; omega
theorem num_lt_month {y m d m' d' : Int} (h : vld y m d) (h' : vld y m' d') (hm : m < m') : num y m d < num y m' d' := by
  obtain ⟨_, _, a1, a2, a3, a4⟩ := h; obtain ⟨_, _, b1, b2, b3, b4⟩ := h'; have := cum_mono y m m' a1 hm (by omega)
  unfold num; omega
/-- A day has one date. -/
theorem num_inj {y m d y' m' d' : Int} (h : vld y m d) (h' : vld y' m' d') (e : num y m d = num y' m' d') : y = y' ∧ m = m' ∧ d = d' := by
  have hy : y = y' := by
    rcases Int.lt_trichotomy y y' with c | c | c
    · have := num_lt_year h h' c; omega
    · exact c
    · have := num_lt_year h' h c; omega
  subst hy
  have hm : m = m' := by
    rcases Int.lt_trichotomy m m' with c | c | c
    · have := num_lt_month h h' c; omega
    · exact c
    · have := num_lt_month h' h c; omega
  subst hm
  refine ⟨rfl, rfl, ?_⟩
  unfold num at e; omega
theorem num_bd {y m d : Int} (h : vld y m d) : -719162 ≤ num y m d ∧ num y m d ≤ 2932896 := by
  obtain ⟨h1, h2, a1, a2, a3, a4⟩ := h; have c := cum_le y m d a1 a2 a3 a4; have e := dby_succ y; have e' := dby_mono (y + 1) 10000 (by omega); have e2 := dby_mono 1 y (by omega)
  have e3 : dby 10000 = 3652059 := by decide
  have e4 : dby 1 = 0 := by decide
  unfold num; omega
theorem dec (d : Int) (h0 : 0 ≤ d) (h1 : d < 146097) : ∃ c q s t : Int, d = 36524 * c + 1461 * q + 365 * s + t ∧ 0 ≤ c ∧ c ≤ 3 ∧ 0 ≤ q ∧ q ≤ 24 ∧ 0 ≤ s ∧ s ≤ 3 ∧ 0 ≤ t ∧ (t ≤ 364 ∨ (t = 365 ∧ s = 3 ∧ (q ≠ 24 ∨ c = 3))) := by
  obtain ⟨c, r, hd, hc0, hc3, hr0, hr1, hr2⟩ : ∃ c r : Int, d = 36524 * c + r ∧ 0 ≤ c ∧ c ≤ 3 ∧ 0 ≤ r ∧ r ≤ 36524 ∧ (r = 36524 → c = 3) := by
    by_cases e : d = 146096
    · exact ⟨3, 36524, by omega, by omega, by omega, by omega, by omega, fun _ => rfl⟩
    · exact ⟨d / 36524, d % 36524, by omega, by omega, by omega, by omega, by omega, by omega⟩
  obtain ⟨q, u, hr, hq0, hq1, hu0, hu1⟩ : ∃ q u : Int, r = 1461 * q + u ∧ 0 ≤ q ∧ q ≤ 24 ∧ 0 ≤ u ∧ u ≤ 1460 := ⟨r / 1461, r % 1461, by omega, by omega, by omega, by omega, by omega⟩
  by_cases e : u = 1460
  · exact ⟨c, q, 3, 365, by omega, hc0, hc3, hq0, hq1, by omega, by omega, by omega, .inr ⟨rfl, rfl, by
      by_cases eq : q = 24
      · right; exact hr2 (by omega)
      · left; exact eq⟩⟩
  · exact ⟨c, q, u / 365, u % 365, by omega, hc0, hc3, hq0, hq1, by omega, by omega, by omega, .inl (by omega)⟩
def yoe (d : Int) : Int := (d - d / 1460 + d / 36524 - d / 146096) / 365
theorem yoe_eq (c q s t : Int) (hc : 0 ≤ c) (hc3 : c ≤ 3) (hq : 0 ≤ q) (hq1 : q ≤ 24) (hs : 0 ≤ s) (hs3 : s ≤ 3) (ht : 0 ≤ t) (h : t ≤ 364 ∨ (t = 365 ∧ s = 3 ∧ (q ≠ 24 ∨ c = 3))) :
    yoe (36524 * c + 1461 * q + 365 * s + t) = 100 * c + 4 * q + s := by
  obtain ⟨d, hd⟩ : ∃ d, d = 36524 * c + 1461 * q + 365 * s + t := ⟨_, rfl⟩
  rw [← hd]
  unfold yoe
  by_cases e : d = 146096
  · subst e
    have : c = 3 ∧ q = 24 ∧ s = 3 := by omega
    omega
  have d3 : d / 146096 = 0 := by omega
  have d2 : d / 36524 = c := by
    have a : 1461 * q + 365 * s + t ≤ 36523 := by omega
    omega
  rw [d3, d2]
  have hd1 : d / 1460 = 25 * c + q ∨ d / 1460 = 25 * c + q + 1 := by omega
  rcases hd1 with k | k
  · rw [k]
    have : 24 * c + q + 365 * s + t < 1460 := by omega
    omega
  · rw [k]
    have : 1460 ≤ 24 * c + q + 365 * s + t := by omega
    omega
/-- The date of a day, out of the parts of its March-year. -/
theorem of_parts (era c q s t m : Int) (hc : 0 ≤ c) (hc3 : c ≤ 3) (hq : 0 ≤ q) (hq1 : q ≤ 24) (hs : 0 ≤ s) (hs3 : s ≤ 3) (ht : 0 ≤ t) (h : t ≤ 364 ∨ (t = 365 ∧ s = 3 ∧ (q ≠ 24 ∨ c = 3)))
    (hm : m = (5 * t + 2) / 153) :
    let y := 400 * era + (100 * c + 4 * q + s) + m / 10
    let mo := (m + 2) % 12 + 1
    let d := t - (153 * m + 2) / 5 + 1
    1 ≤ mo ∧ mo ≤ 12 ∧ 1 ≤ d ∧ d ≤ dim y mo ∧ num y mo d = 146097 * era + (36524 * c + 1461 * q + 365 * s + t) - 719468 := by
  intro y mo d
  have E1 : (400 * era + (100 * c + 4 * q + s)) / 4 = 100 * era + 25 * c + q := by omega
  have E2 : (400 * era + (100 * c + 4 * q + s)) / 100 = 4 * era + c := by omega
  have E3 : (400 * era + (100 * c + 4 * q + s)) / 400 = era := by omega
  have D1 : dby (400 * era + (100 * c + 4 * q + s) + 1) = 365 * (400 * era + (100 * c + 4 * q + s)) + (100 * era + 25 * c + q) - (4 * era + c) + era := by
    unfold dby
    rw [show 400 * era + (100 * c + 4 * q + s) + 1 - 1 = 400 * era + (100 * c + 4 * q + s) by omega, E1, E2, E3]
  have D2 := dby_succ (400 * era + (100 * c + 4 * q + s)); have L := lpI_01 (400 * era + (100 * c + 4 * q + s))
  have L1 : t = 365 → lpI (400 * era + (100 * c + 4 * q + s) + 1) = 1 := by
    intro e
    have e' : s = 3 ∧ (q ≠ 24 ∨ c = 3) := by omega
    unfold lpI
    rw [if_pos]
    omega
  have L2 := lpI_01 (400 * era + (100 * c + 4 * q + s) + 1)
  have hm0 : 0 ≤ m ∧ m ≤ 11 := by omega
  simp only [y, mo, d]; clear y mo d; clear E1 E2 E3
  generalize hE : 400 * era + (100 * c + 4 * q + s) = E at *
  have D1' : dby (E + 1) = 146097 * era + 36524 * c + 1461 * q + 365 * s := by omega
  clear D1
  obtain rfl | rfl | rfl | rfl | rfl | rfl | rfl | rfl | rfl | rfl | rfl | rfl : m = 0 ∨ m = 1 ∨ m = 2 ∨ m = 3 ∨ m = 4 ∨ m = 5 ∨ m = 6 ∨ m = 7 ∨ m = 8 ∨ m = 9 ∨ m = 10 ∨ m = 11 := by omega
  all_goals
    clear hE
    simp [num, dim, cum]
    omega
end Go.Proofs.YtfjifhkgifefeaaGreatDoor.CivM
end

section
/- Texts of dates, in plain Lean: a text cut at a byte, numbers with so many digits, the date of a text. -/
namespace Go.Proofs.YtfjifhkgifefeaaGreatDoor.StrM
open Go Go.Proofs.YtfjifhkgifefeaaGreatDoor.CivM
def splitC (c : UInt8) : List UInt8 → List (List UInt8)
  | [] => [[]]
  | b :: l => if b = c then [] :: splitC c l else match splitC c l with
    | h :: t => (b :: h) :: t
    | [] => [[b]]
theorem splitC_ne (c : UInt8) (l : List UInt8) : splitC c l ≠ [] := by
  cases l with
  | nil => simp [splitC]
  | cons b l =>
    simp only [splitC]
    split
    · simp
    · split <;> simp
theorem splitC_none (c : UInt8) : ∀ l : List UInt8, c ∉ l → splitC c l = [l]
  | [], _ => rfl
  | b :: l, h => by
    simp only [List.mem_cons, not_or] at h; simp only [splitC]; rw [if_neg (fun e => h.1 e.symm), splitC_none c l h.2]
theorem splitC_app (c : UInt8) : ∀ (a l : List UInt8), c ∉ a → splitC c (a ++ c :: l) = a :: splitC c l
  | [], l, _ => by simp [splitC]
  | b :: a, l, h => by
    simp only [List.mem_cons, not_or] at h; simp only [List.cons_append, splitC]; rw [if_neg (fun e => h.1 e.symm), splitC_app c a l h.2]
theorem splitK_eq (c : UInt8) : ∀ l : List UInt8, Lib.splitK [c] 0 (l.count c) l = splitC c l
  | [] => rfl
  | b :: l => by
    have ih := splitK_eq c l
    by_cases h : b = c
    · subst h
      have hix : Lib.index (b :: l) [b] = 0 := by rw [Lib.index]; simp [List.isPrefixOf]
      rw [List.count_cons_self]; simp only [Lib.splitK, splitC, hix]
      simp [ih]
    · have hp : ([c] : List UInt8).isPrefixOf (b :: l) = false := by simp [List.isPrefixOf, Ne.symm h]
      have hix : Lib.index (b :: l) [c] = if Lib.index l [c] == -1 then -1 else Lib.index l [c] + 1 := by rw [Lib.index, hp]; simp
      rw [List.count_cons_of_ne (by simpa using h)]; have hg := Lib.index_ge l [c]; simp only [splitC, if_neg h]
      cases hk : l.count c with
      | zero =>
        rw [hk] at ih; simp only [Lib.splitK] at ih ⊢; rw [← ih]
      | succ k =>
        rw [hk] at ih; simp only [Lib.splitK] at ih ⊢
        by_cases hm : Lib.index l [c] = -1
        · have h0 := Lib.count_miss hm; rw [Lib.count_one] at h0; omega
        · rw [if_neg (by simpa using hm)] at ih
          have hx : Lib.index (b :: l) [c] = Lib.index l [c] + 1 := by rw [hix, if_neg (by simpa using hm)]
          rw [hx, if_neg (by simp; omega)]; rw [← ih]
          have e1 : (Lib.index l [c] + 1).toNat = (Lib.index l [c]).toNat + 1 := by omega
          simp [e1, Nat.add_right_comm]
theorem splitB_eq (c : UInt8) (s : ByteArray) : (Lib.splitB ⟨#[c]⟩ 0 (Lib.countB s ⟨#[c]⟩) s).map (·.data.toList) = splitC c s.data.toList := by
  rw [Lib.splitB_data]; have e : Lib.countB s ⟨#[c]⟩ = s.data.toList.count c := Lib.count_one c s.data.toList; rw [e]
  exact splitK_eq c s.data.toList
def dg (k : Int) : UInt8 := UInt8.ofNat (48 + k.toNat)
def dgt (c : UInt8) : Bool := 48 ≤ c.toNat && c.toNat ≤ 57
def dv (c : UInt8) : Int := (c.toNat : Int) - 48
theorem dg_toNat (k : Int) (h0 : 0 ≤ k) (h1 : k ≤ 9) : (dg k).toNat = 48 + k.toNat := by
  unfold dg
  rw [UInt8.toNat_ofNat', Nat.mod_eq_of_lt (by omega)]
theorem dgt_iff (c : UInt8) : dgt c = true ↔ 48 ≤ c.toNat ∧ c.toNat ≤ 57 := by simp [dgt]
theorem dgt_dg (k : Int) (h0 : 0 ≤ k) (h1 : k ≤ 9) : dgt (dg k) = true := by rw [dgt_iff, dg_toNat k h0 h1]; omega
theorem dv_dg (k : Int) (h0 : 0 ≤ k) (h1 : k ≤ 9) : dv (dg k) = k := by unfold dv; rw [dg_toNat k h0 h1]; omega
theorem dg_dv (c : UInt8) (h : dgt c = true) : dg (dv c) = c := by
  rw [dgt_iff] at h; have : c.toNat < 256 := c.toNat_lt
  apply UInt8.toNat_inj.1
  rw [dg_toNat _ (by unfold dv; omega) (by unfold dv; omega)]
  unfold dv; omega
theorem dv_bd (c : UInt8) (h : dgt c = true) : 0 ≤ dv c ∧ dv c ≤ 9 := by rw [dgt_iff] at h; unfold dv; omega
def padded (w : Nat) (n : Int) : List UInt8 := Lib.repeatL [48] (w - (Lib.itoa n).length) ++ Lib.itoa n
theorem dd1 (u : Nat) (h : u < 10) : Lib.decDigits u = [dg u] := by
  rw [Lib.decDigits, dif_pos h]; simp [dg]
theorem dd2 (u : Nat) (h0 : 10 ≤ u) (h : u < 100) : Lib.decDigits u = [dg (u / 10 : Nat), dg (u % 10 : Nat)] := by
  rw [Lib.decDigits, dif_neg (by omega), dd1 _ (by omega)]; simp [dg]; congr 1
theorem dd3 (u : Nat) (h0 : 100 ≤ u) (h : u < 1000) : Lib.decDigits u = [dg (u / 100 : Nat), dg (u / 10 % 10 : Nat), dg (u % 10 : Nat)] := by
  rw [Lib.decDigits, dif_neg (by omega), dd2 _ (by omega) (by omega), Nat.div_div_eq_div_mul]; simp [dg]; congr 1
theorem dd4 (u : Nat) (h0 : 1000 ≤ u) (h : u < 10000) : Lib.decDigits u = [dg (u / 1000 : Nat), dg (u / 100 % 10 : Nat), dg (u / 10 % 10 : Nat), dg (u % 10 : Nat)] := by
  rw [Lib.decDigits, dif_neg (by omega), dd3 _ (by omega) (by omega), Nat.div_div_eq_div_mul, Nat.div_div_eq_div_mul]; simp [dg]; congr 1
theorem dg0 : dg 0 = 48 := rfl
theorem padded2 (n : Int) (h0 : 0 ≤ n) (h1 : n ≤ 99) : padded 2 n = [dg (n / 10), dg (n % 10)] := by
  obtain ⟨u, rfl⟩ : ∃ u : Nat, n = u := ⟨n.toNat, by omega⟩
  unfold padded Lib.itoa
  rw [if_neg (by omega), Int.toNat_natCast]
  by_cases h : u < 10
  · rw [dd1 u h]
    have e1 : (u : Int) / 10 = 0 := by omega
    have e2 : (u : Int) % 10 = u := by omega
    rw [e1, e2, dg0]; rfl
  · rw [dd2 u (by omega) (by omega)]; rfl
theorem padded4 (n : Int) (h0 : 0 ≤ n) (h1 : n ≤ 9999) : padded 4 n = [dg (n / 1000), dg (n / 100 % 10), dg (n / 10 % 10), dg (n % 10)] := by
  obtain ⟨u, rfl⟩ : ∃ u : Nat, n = u := ⟨n.toNat, by omega⟩
  unfold padded Lib.itoa
  rw [if_neg (by omega), Int.toNat_natCast]
  by_cases h : u < 10
  · rw [dd1 u h]
    have e1 : (u : Int) / 1000 = 0 := by omega
    have e2 : (u : Int) / 100 % 10 = 0 := by omega
    have e3 : (u : Int) / 10 % 10 = 0 := by omega
    have e4 : (u : Int) % 10 = u := by omega
    rw [e1, e2, e3, e4, dg0]; rfl
  by_cases h : u < 100
  · rw [dd2 u (by omega) h]
    have e1 : (u : Int) / 1000 = 0 := by omega
    have e2 : (u : Int) / 100 % 10 = 0 := by omega
    have e3 : (u : Int) / 10 % 10 = (u : Int) / 10 := by omega
    rw [e1, e2, e3, dg0]; rfl
  by_cases h : u < 1000
  · rw [dd3 u (by omega) h]
    have e1 : (u : Int) / 1000 = 0 := by omega
    have e2 : (u : Int) / 100 % 10 = (u : Int) / 100 := by omega
    rw [e1, e2, dg0]; rfl
  · rw [dd4 u (by omega) (by omega)]; rfl
theorem notmem (c : UInt8) (h : dgt c = true) : c ≠ 45 ∧ c ≠ 43 := by
  rw [dgt_iff] at h
  constructor <;> (rintro rfl; simp at h)
theorem digitVal_ok (c : UInt8) (h : dgt c = true) : Lib.digitVal c = some (c.toNat - 48) := by
  rw [dgt_iff] at h
  unfold Lib.digitVal; rw [if_pos h]
theorem atoi2 (a b : UInt8) (ha : dgt a = true) (hb : dgt b = true) : Lib.atoiAll [a, b] = .ok (10 * dv a + dv b) := by
  have na := notmem a ha; rw [Lib.atoiAll_short _ (by simp)]; simp only [Lib.atoi, Lib.decNat, Lib.decFrom, digitVal_ok a ha, digitVal_ok b hb]; rw [dgt_iff] at ha hb; rw [if_neg (by simpa using na.1), if_neg (by simpa using na.2)]
  simp [Lib.NumEnd.ofOption]
  unfold dv; omega
theorem atoi4 (a b c d : UInt8) (ha : dgt a = true) (hb : dgt b = true) (hc : dgt c = true) (hd : dgt d = true) : Lib.atoiAll [a, b, c, d] = .ok (1000 * dv a + 100 * dv b + 10 * dv c + dv d) := by
  have na := notmem a ha; rw [Lib.atoiAll_short _ (by simp)]; simp only [Lib.atoi, Lib.decNat, Lib.decFrom, digitVal_ok a ha, digitVal_ok b hb, digitVal_ok c hc, digitVal_ok d hd]; rw [dgt_iff] at ha hb hc hd; rw [if_neg (by simpa using na.1), if_neg (by simpa using na.2)]
  simp [Lib.NumEnd.ofOption]
  unfold dv; omega
def dateOf : List UInt8 → Option (Int × Int × Int)
  | [a, b, c, d, p, e, f, q, g, h] =>
    if p = 45 ∧ q = 45 ∧ (dgt a = true ∧ dgt b = true ∧ dgt c = true ∧ dgt d = true ∧ dgt e = true ∧ dgt f = true ∧ dgt g = true ∧ dgt h = true) ∧ vld (1000 * dv a + 100 * dv b + 10 * dv c + dv d) (10 * dv e + dv f) (10 * dv g + dv h)
    then some (1000 * dv a + 100 * dv b + 10 * dv c + dv d, 10 * dv e + dv f, 10 * dv g + dv h) else none
  | _ => none
def dtext (y m d : Int) : List UInt8 := padded 4 y ++ 45 :: (padded 2 m ++ 45 :: padded 2 d)
theorem dtext_eq {y m d : Int} (v : vld y m d) : dtext y m d = [dg (y / 1000), dg (y / 100 % 10), dg (y / 10 % 10), dg (y % 10), 45, dg (m / 10), dg (m % 10), 45, dg (d / 10), dg (d % 10)] := by
  obtain ⟨h1, h2, h3, h4, h5, h6⟩ := v; have hd := dim_bd y m
  unfold dtext
  rw [padded4 y (by omega) h2, padded2 m (by omega) (by omega), padded2 d (by omega) (by omega)]
  rfl
theorem dateOf_dtext {y m d : Int} (v : vld y m d) : dateOf (dtext y m d) = some (y, m, d) := by
  rw [dtext_eq v]; obtain ⟨h1, h2, h3, h4, h5, h6⟩ := id v; have hd := dim_bd y m; simp only [dateOf]; rw [dgt_dg _ (by omega) (by omega), dgt_dg _ (by omega) (by omega), dgt_dg _ (by omega) (by omega), dgt_dg _ (by omega) (by omega), dgt_dg _ (by omega) (by omega), dgt_dg _ (by omega) (by omega), dgt_dg _ (by omega) (by omega), dgt_dg _ (by omega) (by omega)]; rw [dv_dg _ (by omega) (by omega), dv_dg _ (by omega) (by omega), dv_dg _ (by omega) (by omega), dv_dg _ (by omega) (by omega), dv_dg _ (by omega) (by omega), dv_dg _ (by omega) (by omega), dv_dg _ (by omega) (by omega), dv_dg _ (by omega) (by omega)]
  have e1 : 1000 * (y / 1000) + 100 * (y / 100 % 10) + 10 * (y / 10 % 10) + y % 10 = y := by omega
  have e2 : 10 * (m / 10) + m % 10 = m := by omega
  have e3 : 10 * (d / 10) + d % 10 = d := by omega
  rw [e1, e2, e3, if_pos ⟨trivial, trivial, ⟨rfl, rfl, rfl, rfl, rfl, rfl, rfl, rfl⟩, v⟩]
/-- What a text is that has a date. -/
theorem dateOf_some {l : List UInt8} {y m d : Int} (h : dateOf l = some (y, m, d)) :
    vld y m d ∧ dtext y m d = l ∧ ∃ p0 p1 p2, splitC 45 l = [p0, p1, p2] ∧ Lib.atoiAll p0 = .ok y ∧ Lib.atoiAll p1 = .ok m ∧ Lib.atoiAll p2 = .ok d := by
  unfold dateOf at h
  split at h
  · rename_i a b c d' p e f q g h'
    split at h
    · rename_i hc
      obtain ⟨rfl, rfl, ⟨ha, hb, hc, hd, he, hf, hg, hh⟩, v⟩ := hc; simp only [Option.some.injEq, Prod.mk.injEq] at h; obtain ⟨rfl, rfl, rfl⟩ := h
      refine ⟨v, ?_, [a, b, c, d'], [e, f], [g, h'], ?_, atoi4 a b c d' ha hb hc hd, atoi2 e f he hf, atoi2 g h' hg hh⟩
      · rw [dtext_eq v]; have b1 := dv_bd a ha; have b2 := dv_bd b hb; have b3 := dv_bd c hc; have b4 := dv_bd d' hd; have b5 := dv_bd e he; have b6 := dv_bd f hf; have b7 := dv_bd g hg; have b8 := dv_bd h' hh
        have k1 : (1000 * dv a + 100 * dv b + 10 * dv c + dv d') / 1000 = dv a := by omega
        have k2 : (1000 * dv a + 100 * dv b + 10 * dv c + dv d') / 100 % 10 = dv b := by omega
        have k3 : (1000 * dv a + 100 * dv b + 10 * dv c + dv d') / 10 % 10 = dv c := by omega
        have k4 : (1000 * dv a + 100 * dv b + 10 * dv c + dv d') % 10 = dv d' := by omega
        have k5 : (10 * dv e + dv f) / 10 = dv e := by omega
        have k6 : (10 * dv e + dv f) % 10 = dv f := by omega
        have k7 : (10 * dv g + dv h') / 10 = dv g := by omega
        have k8 : (10 * dv g + dv h') % 10 = dv h' := by omega
        rw [k1, k2, k3, k4, k5, k6, k7, k8, dg_dv a ha, dg_dv b hb, dg_dv c hc, dg_dv d' hd, dg_dv e he, dg_dv f hf, dg_dv g hg, dg_dv h' hh]
      · have n1 := (notmem a ha).1; have n2 := (notmem b hb).1; have n3 := (notmem c hc).1; have n4 := (notmem d' hd).1; have n5 := (notmem e he).1; have n6 := (notmem f hf).1; have n7 := (notmem g hg).1; have n8 := (notmem h' hh).1
        show splitC 45 ([a, b, c, d'] ++ 45 :: ([e, f] ++ 45 :: [g, h'])) = _
        rw [splitC_app _ _ _ (by simp [n1.symm, n2.symm, n3.symm, n4.symm]), splitC_app _ _ _ (by simp [n5.symm, n6.symm]), splitC_none _ _ (by simp [n7.symm, n8.symm])]
    · cases h
  · cases h
/-- ahead of the walk: which way it goes. -/
theorem dateOf_iff {l : List UInt8} {y m d : Int} {p0 p1 p2 : List UInt8} (hs : splitC 45 l = [p0, p1, p2]) (h0 : Lib.atoiAll p0 = .ok y) (h1 : Lib.atoiAll p1 = .ok m) (h2 : Lib.atoiAll p2 = .ok d) :
    dateOf l = if vld y m d ∧ dtext y m d = l then some (y, m, d) else none := by
  split
  · rename_i c
    rw [← c.2]; exact dateOf_dtext c.1
  · rename_i c
    cases h : dateOf l with
    | none => rfl
    | some t =>
      obtain ⟨y', m', d'⟩ := t; obtain ⟨v, e, q0, q1, q2, hs', a0, a1, a2⟩ := dateOf_some h; rw [hs] at hs'; simp only [List.cons.injEq, and_true] at hs'; obtain ⟨rfl, rfl, rfl⟩ := hs'; rw [h0] at a0; rw [h1] at a1; rw [h2] at a2; simp only [Lib.NumEnd.ok.injEq] at a0 a1 a2; subst a0 a1 a2
      exact absurd ⟨v, e⟩ c
end Go.Proofs.YtfjifhkgifefeaaGreatDoor.StrM
end

section
/- Numbers with so many digits, and stamps, in plain Lean. -/
namespace Go.Proofs.YtfjifhkgifefeaaGreatDoor.StrM
open Go Go.Proofs.YtfjifhkgifefeaaGreatDoor.CivM
/-- The last w digits of a number. -/
def digs : Nat → Int → List UInt8
  | 0, _ => []
  | w + 1, n => digs w (n / 10) ++ [dg (n % 10)]
theorem digs_len (w : Nat) : ∀ n, (digs w n).length = w := by
  induction w with
  | zero => intro n; rfl
  | succ w ih => intro n; simp [digs, ih]
theorem digs_zero (w : Nat) : digs w 0 = List.replicate w 48 := by
  induction w with
  | zero => rfl
  | succ w ih =>
    simp only [digs]; rw [show (0 : Int) / 10 = 0 from rfl, show (0 : Int) % 10 = 0 from rfl, ih, dg0, List.replicate_succ']
theorem rep_eq (n : Nat) : Lib.repeatL [48] n = List.replicate n 48 := by
  induction n with
  | zero => rfl
  | succ n ih => simp [Lib.repeatL, ih, List.replicate_succ]
theorem dec_len (w : Nat) : ∀ u : Nat, u < 10 ^ (w + 1) → 1 ≤ (Lib.decDigits u).length ∧ (Lib.decDigits u).length ≤ w + 1 := by
  induction w with
  | zero => intro u h; rw [dd1 u (by simpa using h)]; simp
  | succ w ih =>
    intro u h
    by_cases c : u < 10
    · rw [dd1 u c]; simp
    · rw [Lib.decDigits, dif_neg c]; have := ih (u / 10) (by rw [Nat.pow_succ] at h; omega)
      simp; omega
theorem padded_digs (w : Nat) : ∀ u : Nat, u < 10 ^ (w + 1) → List.replicate (w + 1 - (Lib.decDigits u).length) 48 ++ Lib.decDigits u = digs (w + 1) u := by
  induction w with
  | zero =>
    intro u h
    rw [dd1 u (by simpa using h)]
    have e : (u : Int) % 10 = u := by have : u < 10 := by simpa using h
                                      omega
    simp [digs, e]
  | succ w ih =>
    intro u h
    by_cases c : u < 10
    · rw [dd1 u c]
      have e1 : (u : Int) % 10 = u := by omega
      have e2 : (u : Int) / 10 = 0 := by omega
      simp only [digs]; rw [e1, e2, show (0 : Int) / 10 = 0 from rfl, show (0 : Int) % 10 = 0 from rfl, digs_zero, dg0, ← List.replicate_succ']
      simp
    · rw [Lib.decDigits, dif_neg c]; have h2 := ih (u / 10) (by rw [Nat.pow_succ] at h; omega); have l := dec_len w (u / 10) (by rw [Nat.pow_succ] at h; omega); rw [show digs (w + 1 + 1) (u : Int) = digs (w + 1) ((u : Int) / 10) ++ [dg ((u : Int) % 10)] from rfl]; rw [show (u : Int) / 10 = ((u / 10 : Nat) : Int) by omega, ← h2]
      have e3 : w + 1 + 1 - (Lib.decDigits (u / 10) ++ [UInt8.ofNat (48 + u % 10)]).length = w + 1 - (Lib.decDigits (u / 10)).length := by simp
      rw [e3, List.append_assoc]
      congr 2
theorem padded_eq (w : Nat) (n : Int) (h0 : 0 ≤ n) (h1 : n < 10 ^ (w + 1)) : padded (w + 1) n = digs (w + 1) n := by
  obtain ⟨u, rfl⟩ : ∃ u : Nat, n = u := ⟨n.toNat, by omega⟩
  unfold padded Lib.itoa
  rw [if_neg (by omega), Int.toNat_natCast, rep_eq]
  exact padded_digs w u (by exact_mod_cast h1)
theorem itoa_le (w : Nat) (n : Int) (h0 : 0 ≤ n) (h1 : n < 10 ^ (w + 1)) : (Lib.itoa n).length ≤ w + 1 := by
  obtain ⟨u, rfl⟩ : ∃ u : Nat, n = u := ⟨n.toNat, by omega⟩
  unfold Lib.itoa
  rw [if_neg (by omega), Int.toNat_natCast]
  exact (dec_len w u (by exact_mod_cast h1)).2
/-- The number of a text of digits. -/
def decv (l : List UInt8) : Int := l.foldl (fun n c => 10 * n + dv c) 0
theorem decv_snoc (l : List UInt8) (c : UInt8) : decv (l ++ [c]) = 10 * decv l + dv c := by simp [decv]
theorem digs_all (w : Nat) : ∀ n, 0 ≤ n → (digs w n).all dgt = true := by
  induction w with
  | zero => intro n _; rfl
  | succ w ih =>
    intro n h
    simp only [digs, List.all_append, List.all_cons, List.all_nil, Bool.and_true, Bool.and_eq_true]
    exact ⟨ih _ (by omega), dgt_dg _ (by omega) (by omega)⟩
theorem decv_digs (w : Nat) : ∀ n : Int, 0 ≤ n → n < 10 ^ w → decv (digs w n) = n := by
  induction w with
  | zero => intro n h0 h1; simp at h1; simp [digs, decv]; omega
  | succ w ih =>
    intro n h0 h1
    simp only [digs]; rw [decv_snoc, ih (n / 10) (by omega) (by rw [Int.pow_succ] at h1; omega), dv_dg _ (by omega) (by omega)]
    omega
theorem snoc_ind {P : List UInt8 → Prop} (h0 : P []) (h1 : ∀ l c, P l → P (l ++ [c])) (l : List UInt8) : P l := by
  rw [← List.reverse_reverse l]
  generalize l.reverse = m
  induction m with
  | nil => exact h0
  | cons c r ih => rw [List.reverse_cons]; exact h1 _ _ ih
theorem decv_bd (l : List UInt8) : l.all dgt = true → 0 ≤ decv l ∧ decv l < 10 ^ l.length := by
  refine snoc_ind (P := fun l => l.all dgt = true → 0 ≤ decv l ∧ decv l < 10 ^ l.length) ?_ ?_ l
  · intro _; simp [decv]
  · intro l c ih h
    simp only [List.all_append, List.all_cons, List.all_nil, Bool.and_true, Bool.and_eq_true] at h; have b := ih h.1; have v := dv_bd c h.2; rw [decv_snoc, List.length_append, List.length_singleton, Int.pow_succ]
    omega
theorem digs_decv (l : List UInt8) : l.all dgt = true → digs l.length (decv l) = l := by
  refine snoc_ind (P := fun l => l.all dgt = true → digs l.length (decv l) = l) ?_ ?_ l
  · intro _; rfl
  · intro l c ih h
    simp only [List.all_append, List.all_cons, List.all_nil, Bool.and_true, Bool.and_eq_true] at h; have v := dv_bd c h.2; rw [List.length_append, List.length_singleton]; simp only [digs]; rw [decv_snoc]
    have e1 : (10 * decv l + dv c) / 10 = decv l := by omega
    have e2 : (10 * decv l + dv c) % 10 = dv c := by omega
    rw [e1, e2, ih h.1, dg_dv c h.2]
theorem decFrom_eq (l : List UInt8) : ∀ acc : Nat, l.all dgt = true → Lib.decFrom acc l = some (l.foldl (fun n c => n * 10 + (c.toNat - 48)) acc) := by
  induction l with
  | nil => intro acc _; rfl
  | cons c l ih =>
    intro acc h
    simp only [List.all_cons, Bool.and_eq_true] at h; simp only [Lib.decFrom, digitVal_ok c h.1, List.foldl_cons]
    exact ih _ h.2
theorem foldl_cast (l : List UInt8) : ∀ (a : Nat), l.all dgt = true → ((l.foldl (fun n c => n * 10 + (c.toNat - 48)) a : Nat) : Int) = l.foldl (fun n c => 10 * n + dv c) (a : Int) := by
  induction l with
  | nil => intro a _; rfl
  | cons c l ih =>
    intro a h
    simp only [List.all_cons, Bool.and_eq_true] at h; simp only [List.foldl_cons]; rw [ih _ h.2]; have hc := (dgt_iff c).1 h.1
    congr 1; unfold dv; omega
theorem atoi_digits (l : List UInt8) (hne : l ≠ []) (hl : l.length ≤ 18) (h : l.all dgt = true) : Lib.atoiAll l = .ok (decv l) := by
  rw [Lib.atoiAll_short l hl]
  cases l with
  | nil => exact absurd rfl hne
  | cons c r =>
    have hc : dgt c = true := by simp only [List.all_cons, Bool.and_eq_true] at h; exact h.1
    have na := notmem c hc; simp only [Lib.atoi, Lib.decNat]; rw [if_neg (by simpa using na.1), if_neg (by simpa using na.2)]; simp only [List.isEmpty_cons, Bool.false_eq_true, if_false]; rw [decFrom_eq _ _ h]; simp only [Option.map_some, Lib.NumEnd.ofOption]; rw [foldl_cast _ _ h]; rfl
end Go.Proofs.YtfjifhkgifefeaaGreatDoor.StrM
end

section
/- errors.As at the target *api.Errno, by its contracts: a nil error gives false and turns nothing; an error whose dynamic type is api.Errno sets the target. After the kit's worked example ToyasAs, turned from a pointer's type to a whole number's. -/
namespace Go.Proofs.YtfjifhkgifefeaaGreatDoor
open Go.RowKit Go.Extern.Stop Go.Stop Go.Extern
theorem Tryz.valueOfP (t : Addr) (w : World) : (ReflectliteValue.unpack (.iface 160 (.pointer (some t)))).run Tryz.prog w
    = .ok (.agg #[.pointer (some ⟨9, 160, none⟩), .pointer (some ⟨w.heap.size, 0, none⟩), .int .u64 150]) (w.alloc (.cells #[.pointer (some t)] 160)) := by kernel_rfl
theorem Tryz.typeP (a : Addr) (w : World) : (ReflectliteValue.methodAny (ReflectliteValue.valueError "reflectlite.Value.Type" 0) (fun t _ _ _ => ReflectliteType.toType t) #[.agg #[.pointer (some ⟨9, 160, none⟩), .pointer (some a), .int .u64 150]]).run Tryz.prog w
    = .ok (.iface 260 (.agg #[.pointer (some ⟨9, 160, none⟩)])) w := by kernel_rfl
theorem Tryz.methodKind (h : Value) (w : World) : (Go.method 444 260 (.agg #[h]) "Kind").run Tryz.prog w = .ok (264, h) w := by kernel_rfl
theorem Tryz.kindP (w : World) : ((ReflectliteType.abiMethod fun t => (fun a : Nat => Value.int IntKind.u8 (a : Int)) <$> Rtype.kind t) #[.pointer (some ⟨9, 160, none⟩)]).run Tryz.prog w = .ok (.int .u8 22) w := by kernel_rfl
theorem Tryz.kindE (w : World) : ((ReflectliteType.abiMethod fun t => (fun a : Nat => Value.int IntKind.u8 (a : Int)) <$> Rtype.kind t) #[.pointer (some ⟨9, 157, none⟩)]).run Tryz.prog w = .ok (.int .u8 2) w := by kernel_rfl
theorem rlm (z : Sem Value) (f : TypeId → Addr → Nat → Nat → Sem Value) (v : Value) :
    ReflectliteValue.method z f #[v] = (do match ← ReflectliteValue.parts v with | none => z | some (t, a, fl) => f t a fl (fl % 32)) := rfl
theorem Tryz.partsP (a : Addr) (w : World) : (ReflectliteValue.parts (.agg #[.pointer (some ⟨9, 160, none⟩), .pointer (some a), .int .u64 150])).run Tryz.prog w = .ok (some (160, a, 150)) w := by kernel_rfl
/-- (Value).IsNil at the Value of a pointer that is not nil. -/
theorem Tryz.isNilP (a p : Addr) (W : World) (ha : W.cell? a = some (.pointer (some p))) :
    (ReflectliteValue.method (ReflectliteValue.valueError "reflectlite.Value.IsNil" 0) ReflectliteValue.isNil #[.agg #[.pointer (some ⟨9, 160, none⟩), .pointer (some a), .int .u64 150]]).run Tryz.prog W = .ok (.bool false) W := by
  rw [rlm]; simp only [Sem.run_bind, Tryz.partsP, Result.andThen]
  simp [ReflectliteValue.isNil, loadVar, isAgg, underlying, Tryz.underlying160, ha, Result.andThen]
theorem Tryz.methodElem (h : Value) (w : World) : (Go.method 444 260 (.agg #[h]) "Elem").run Tryz.prog w = .ok (275, .agg #[h]) w := by kernel_rfl
theorem Tryz.methodImplements (h : Value) (w : World) : (Go.method 444 260 (.agg #[h]) "Implements").run Tryz.prog w = .ok (276, .agg #[h]) w := by kernel_rfl
theorem Tryz.methodAssignableTo (h : Value) (w : World) : (Go.method 444 260 (.agg #[h]) "AssignableTo").run Tryz.prog w = .ok (273, .agg #[h]) w := by kernel_rfl
theorem Tryz.elemP (w : World) : (ReflectliteType.method ReflectliteType.elem #[.agg #[.pointer (some ⟨9, 160, none⟩)]]).run Tryz.prog w = .ok (.iface 260 (.agg #[.pointer (some ⟨9, 157, none⟩)])) w := by kernel_rfl
theorem Tryz.implementsE (w : World) : (ReflectliteType.relation "Implements" ReflectliteType.implements_ #[.agg #[.pointer (some ⟨9, 157, none⟩)], .iface 260 (.agg #[.pointer (some ⟨9, 28, none⟩)])]).run Tryz.prog w = .ok (.bool true) w := by kernel_rfl
theorem Tryz.typeOfE (v : Value) (w : World) : (ReflectliteType.typeOf #[.iface 157 v]).run Tryz.prog w = .ok (.iface 260 (.agg #[.pointer (some ⟨9, 157, none⟩)])) w := by kernel_rfl
theorem Tryz.assignableE (w : World) : (ReflectliteType.relation "AssignableTo" ReflectliteType.assignableTo #[.agg #[.pointer (some ⟨9, 157, none⟩)], .iface 260 (.agg #[.pointer (some ⟨9, 157, none⟩)])]).run Tryz.prog w = .ok (.bool true) w := by kernel_rfl
theorem Tryz.valueOfE (c : Int) (w : World) : (ReflectliteValue.unpack (.iface 157 (.int .i64 c))).run Tryz.prog w
    = .ok (.agg #[.pointer (some ⟨9, 157, none⟩), .pointer (some ⟨w.heap.size, 0, none⟩), .int .u64 130]) (w.alloc (.cells #[.int .i64 c] 157)) := by kernel_rfl
theorem Tryz.elemOfP (w : World) : (Rtype.elem? 160).run Tryz.prog w = .ok (some 157) w := by kernel_rfl
theorem Tryz.mkE (p : Addr) (w : World) : (ReflectliteValue.mk 157 p ReflectliteValue.flagAddr).run Tryz.prog w = .ok (.agg #[.pointer (some ⟨9, 157, none⟩), .pointer (some p), .int .u64 386]) w := by kernel_rfl
/-- (Value).Elem at the Value of a pointer that is not nil: the Value of the variable that it points to, addressable. -/
theorem Tryz.elemVP (a p : Addr) (W : World) (ha : W.cell? a = some (.pointer (some p))) :
    (ReflectliteValue.method (ReflectliteValue.valueError "reflectlite.Value.Elem" 0) ReflectliteValue.elem #[.agg #[.pointer (some ⟨9, 160, none⟩), .pointer (some a), .int .u64 150]]).run Tryz.prog W
      = .ok (.agg #[.pointer (some ⟨9, 157, none⟩), .pointer (some p), .int .u64 386]) W := by
  rw [rlm]; simp only [Sem.run_bind, Tryz.partsP, Result.andThen]
  simp [ReflectliteValue.elem, loadVar, isAgg, underlying, Tryz.underlying160, ha, Result.andThen, Tryz.elemOfP, Tryz.mkE]
theorem rls (v x : Value) : ReflectliteValue.set #[v, x] = (do
    let (some (dst, a, fl), some (src, b, _)) := (← ReflectliteValue.parts v, ← ReflectliteValue.parts x)
      | unsupported (.noEntry "extern/(internal/reflectlite.Value).Set.zeroValue")
    if fl / ReflectliteValue.flagAddr % 2 == 0 then unsupported (.noEntry "extern/(internal/reflectlite.Value).Set.unaddressable")
    let val ← loadVar src b
    if ← Rtype.directlyAssignable dst src then storeVar dst a val
    else if ← Rtype.implements dst src then
      if (← Rtype.kind src) == 20 then
        match val with
        | .nilIface => unsupported (.noEntry "extern/reflectlite: a nil value of one interface type handed on as a value of another")
        | _ => storeVar dst a val
      else storeVar dst a (.iface src val)
    else panicString ("reflectlite.Set: value of type " ++ (← Rtype.spelt src) ++ " is not assignable to type " ++ (← Rtype.spelt dst))
    pure (.tuple #[])) := rfl
theorem Tryz.partsEa (a : Addr) (w : World) : (ReflectliteValue.parts (.agg #[.pointer (some ⟨9, 157, none⟩), .pointer (some a), .int .u64 386])).run Tryz.prog w = .ok (some (157, a, 386)) w := by kernel_rfl
theorem Tryz.partsE (a : Addr) (w : World) : (ReflectliteValue.parts (.agg #[.pointer (some ⟨9, 157, none⟩), .pointer (some a), .int .u64 130])).run Tryz.prog w = .ok (some (157, a, 130)) w := by kernel_rfl
theorem Tryz.directE (w : World) : (Rtype.directlyAssignable 157 157).run Tryz.prog w = .ok true w := by kernel_rfl
/-- (Value).Set: the variable at 'ta' gets what the Value's own variable 'b' holds. -/
theorem Tryz.setE (ta b : Addr) (c : Int) (old : Value) (W : World) (hb : W.cell? b = some (.int .i64 c)) (ht : W.cell? ta = some old) (hf : W.frozen? ta = false) :
    (ReflectliteValue.set #[.agg #[.pointer (some ⟨9, 157, none⟩), .pointer (some ta), .int .u64 386], .agg #[.pointer (some ⟨9, 157, none⟩), .pointer (some b), .int .u64 130]]).run Tryz.prog W
      = .ok (.tuple #[]) (W.setCell ta (.int .i64 c)) := by
  rw [rls]; simp only [Sem.run_bind, Tryz.partsEa, Tryz.partsE, Result.andThen]
  simp [ReflectliteValue.flagAddr, loadVar, isAgg, underlying, Tryz.underlying157, hb, Result.andThen, Tryz.directE, storeVar, Value.cells, storeCells, Addr.add]
  rw [run_store Tryz.prog W ta _ _ (by rfl)]
  simp [ht, hf]
theorem as_hit (c : Int) (t : Addr) (old : Value) (w : World) (hg : w.cell? ⟨0, 0, none⟩ = some (.iface 260 (.agg #[.pointer (some ⟨9, 28, none⟩)]))) (ht0 : w.cell? t = some old) (hf0 : w.frozen? t = false) :
    Calls Tryz.prog 93 #[.iface 157 (.int .i64 c), .iface 160 (.pointer (some t))] w fun ev w' => ev = .returned (.bool true) ∧ w' = ((((w.alloc (.cells #[.pointer (some t)] 160)).alloc (.cells #[.pointer (some ⟨9, 160, none⟩), .pointer (some ⟨w.heap.size, 0, none⟩), .int .u64 150] 223)).alloc (.cells #[.pointer (some ⟨9, 160, none⟩), .pointer (some ⟨w.heap.size, 0, none⟩), .int .u64 150] 223)).alloc (.cells #[.int .i64 c] 157)).setCell t (.int .i64 c) := by
  have h6 := @run_callFunc_extern Tryz.prog 157 _ (fun args => ReflectliteValue.unpack (args.getD 0 (.tuple #[]))) Tryz.func157 (by kernel_rfl) (by kernel_rfl) (by kernel_rfl) (by kernel_rfl); have h7 := @run_callFunc_extern Tryz.prog 158 _ (ReflectliteValue.methodAny (ReflectliteValue.valueError "reflectlite.Value.Type" 0) (fun t _ _ _ => ReflectliteType.toType t)) Tryz.func158 (by kernel_rfl) (by kernel_rfl) (by kernel_rfl) (by kernel_rfl); have h8 := @run_callFunc_extern Tryz.prog 159 _ (ReflectliteValue.method (ReflectliteValue.valueError "reflectlite.Value.IsNil" 0) ReflectliteValue.isNil) Tryz.func159 (by kernel_rfl) (by kernel_rfl) (by kernel_rfl) (by kernel_rfl); have h27 := @run_callFunc_extern Tryz.prog 264 _ (ReflectliteType.abiMethod fun t => do pure (.int .u8 (← Rtype.kind t))) Tryz.func264 (by kernel_rfl) (by kernel_rfl) (by kernel_rfl) (by kernel_rfl); have h37 := @run_callFunc_extern Tryz.prog 275 _ (ReflectliteType.method ReflectliteType.elem) Tryz.func275 (by kernel_rfl) (by kernel_rfl) (by kernel_rfl) (by kernel_rfl); have h38 := @run_callFunc_extern Tryz.prog 276 _ (ReflectliteType.relation "Implements" ReflectliteType.implements_) Tryz.func276 (by kernel_rfl) (by kernel_rfl) (by kernel_rfl) (by kernel_rfl); have h10 := @run_callFunc_extern Tryz.prog 192 _ ReflectliteType.typeOf Tryz.func192 (by kernel_rfl) (by kernel_rfl) (by kernel_rfl) (by kernel_rfl); have h35 := @run_callFunc_extern Tryz.prog 273 _ (ReflectliteType.relation "AssignableTo" ReflectliteType.assignableTo) Tryz.func273 (by kernel_rfl) (by kernel_rfl) (by kernel_rfl) (by kernel_rfl); have h11 := @run_callFunc_extern Tryz.prog 193 _ (ReflectliteValue.method (ReflectliteValue.valueError "reflectlite.Value.Elem" 0) ReflectliteValue.elem) Tryz.func193 (by kernel_rfl) (by kernel_rfl) (by kernel_rfl) (by kernel_rfl); have h12 := @run_callFunc_extern Tryz.prog 194 _ ReflectliteValue.set Tryz.func194 (by kernel_rfl) (by kernel_rfl) (by kernel_rfl) (by kernel_rfl); have tO := Tryz.typeOfE; have mA := Tryz.methodAssignableTo; have aE := Tryz.assignableE; have vE := Tryz.valueOfE; have f6 := Tryz.valueOfP; have f7 := Tryz.typeP; have mK := Tryz.methodKind; have mE := Tryz.methodElem; have mI := Tryz.methodImplements; have kP := Tryz.kindP; have kE := Tryz.kindE; have eP := Tryz.elemP; have iE := Tryz.implementsE; have n8 := Tryz.isNilP ⟨w.heap.size, 0, none⟩ t ((w.alloc (.cells #[.pointer (some t)] 160)).alloc (.cells #[.pointer (some ⟨9, 160, none⟩), .pointer (some ⟨w.heap.size, 0, none⟩), .int .u64 150] 223)) (by simp)
  have hlt : 0 < w.heap.size := by
    rcases Nat.lt_or_ge 0 w.heap.size with h | h
    · exact h
    · simp [World.cell?, Array.getElem?_eq_none h] at hg
  have hg2 : ((w.alloc (.cells #[.pointer (some t)] 160)).alloc (.cells #[.pointer (some ⟨9, 160, none⟩), .pointer (some ⟨w.heap.size, 0, none⟩), .int .u64 150] 223)).cell? ⟨0, 0, none⟩ = some (.iface 260 (.agg #[.pointer (some ⟨9, 28, none⟩)])) := by
    rw [World.cell?_alloc_lt _ _ ⟨0, 0, none⟩ (by simp <;> omega), World.cell?_alloc_lt _ _ ⟨0, 0, none⟩ hlt]; exact hg
  have htl : t.block < w.heap.size := by
    rcases Nat.lt_or_ge t.block w.heap.size with h | h
    · exact h
    · simp [World.cell?, Array.getElem?_eq_none h] at ht0
  have el := Tryz.elemVP ⟨w.heap.size, 0, none⟩ t (((w.alloc (.cells #[.pointer (some t)] 160)).alloc (.cells #[.pointer (some ⟨9, 160, none⟩), .pointer (some ⟨w.heap.size, 0, none⟩), .int .u64 150] 223)).alloc (.cells #[.pointer (some ⟨9, 160, none⟩), .pointer (some ⟨w.heap.size, 0, none⟩), .int .u64 150] 223)) (by rw [World.cell?_alloc_lt _ _ ⟨w.heap.size, 0, none⟩ (by simp; omega)]; simp); have st := Tryz.setE t ⟨w.heap.size + 1 + 1 + 1, 0, none⟩ c old ((((w.alloc (.cells #[.pointer (some t)] 160)).alloc (.cells #[.pointer (some ⟨9, 160, none⟩), .pointer (some ⟨w.heap.size, 0, none⟩), .int .u64 150] 223)).alloc (.cells #[.pointer (some ⟨9, 160, none⟩), .pointer (some ⟨w.heap.size, 0, none⟩), .int .u64 150] 223)).alloc (.cells #[.int .i64 c] 157))
    (by rw [World.cell?_alloc_at _ _ _ _ (by simp)]; rfl)
    (by rw [World.cell?_alloc_lt _ _ t (by simp; omega), World.cell?_alloc_lt _ _ t (by simp; omega), World.cell?_alloc_lt _ _ t (by simp; omega), World.cell?_alloc_lt _ _ t htl]; exact ht0)
    (by rw [World.frozen?_alloc_old _ _ t (by simp; omega), World.frozen?_alloc_old _ _ t (by simp; omega), World.frozen?_alloc_old _ _ t (by simp; omega), World.frozen?_alloc_old _ _ t (Nat.ne_of_lt htl)]; exact hf0)
  go_enter Tryz.func93, Tryz.ntmps93
  go_wp2
  refine wp_loop_rounds 1 ?_
  rw [rounds_succ]
  go_wp2
  go_ret
  exact ⟨rfl, rfl⟩
end Go.Proofs.YtfjifhkgifefeaaGreatDoor
end

section
/-
  DERIVED: THE SHELF's CONTRACTS AT THIS DUMP, IN PLAIN WORDS (tools/lay-plain.mjs out of 'TryzShelf.lean', which tools/lay-shelf.mjs wrote): THE SAME DECLARATIONS UNDER THE SAME NAMES: 'import', 'namespace', 'open', 'def', 'theorem' AND NOTHING ELSE: no command of the shelf's: FOR A HAND-IN. Each laying: the table of numbers ('.._ren') and one theorem, a field a fact of the dump's own or the kernel's comparison; each contract: ONE APPLICATION.
-/
namespace Go.Proofs
open Go.Shelf
def Tryz.lays162_ren : Go.Shelf.Ren := ⟨fun | 162 => 188 | 232 => 220 | 227 => 172 | 234 => 221 | 236 => 222 | 228 => 213 | 271 => 244 | 151 => 214 | 120 => 249 | 197 => 204 | 152 => 243 | 260 => 231 | 137 => 117 | 119 => 248 | 224 => 233 | 225 => 232 | 217 => 176 | 266 => 215 | n => n, fun | 9 => 9 | 4 => 4 | 3 => 3 | 5 => 5 | 117 => 244 | 116 => 243 | 0 => 0 | 124 => 247 | 21 => 21 | 105 => 279 | 46 => 191 | 119 => 310 | 139 => 313 | 138 => 312 | n => n, fun | 3 => 5 | 4 => 6 | n => n⟩
theorem Tryz.lays162 : Go.Proofs.Lays.n162 Tryz.prog Tryz.lays162_ren := {
  mixed := by kernel_rfl
  f119 := Tryz.func248.trans (congrArg some (by kernel_rfl))
  f120 := Tryz.func249.trans (congrArg some (by kernel_rfl))
  f137 := Tryz.func117.trans (congrArg some (by kernel_rfl))
  f151 := Tryz.func214.trans (congrArg some (by kernel_rfl))
  f152 := Tryz.func243.trans (congrArg some (by kernel_rfl))
  f162 := Tryz.func188.trans (congrArg some (by kernel_rfl))
  f197 := Tryz.func204.trans (congrArg some (by kernel_rfl))
  f217 := Tryz.func176.trans (congrArg some (by kernel_rfl))
  f224 := Tryz.func233.trans (congrArg some (by kernel_rfl))
  f225 := Tryz.func232.trans (congrArg some (by kernel_rfl))
  f227 := Tryz.func172.trans (congrArg some (by kernel_rfl))
  f228 := Tryz.func213.trans (congrArg some (by kernel_rfl))
  f232 := Tryz.func220.trans (congrArg some (by kernel_rfl))
  f234 := Tryz.func221.trans (congrArg some (by kernel_rfl))
  f236 := Tryz.func222.trans (congrArg some (by kernel_rfl))
  f260 := Tryz.func231.trans (congrArg some (by kernel_rfl))
  f266 := Tryz.func215.trans (congrArg some (by kernel_rfl))
  f271 := Tryz.func244.trans (congrArg some (by kernel_rfl))
  t0 := Tryz.underlying0
  a0 := Tryz.isAgg0
  z0 := Tryz.sizeOf0
  v0 := Tryz.zeroValue0
  t3 := Tryz.underlying3
  a3 := Tryz.isAgg3
  z3 := Tryz.sizeOf3
  v3 := Tryz.zeroValue3
  t4 := Tryz.underlying4
  a4 := Tryz.isAgg4
  z4 := Tryz.sizeOf4
  v4 := Tryz.zeroValue4
  t5 := Tryz.underlying5
  a5 := Tryz.isAgg5
  z5 := Tryz.sizeOf5
  v5 := Tryz.zeroValue5
  t9 := Tryz.underlying9
  a9 := Tryz.isAgg9
  z9 := Tryz.sizeOf9
  v9 := Tryz.zeroValue9
  t21 := Tryz.underlying21
  a21 := Tryz.isAgg21
  z21 := Tryz.sizeOf21
  v21 := Tryz.zeroValue21
  t46 := Tryz.underlying191
  a46 := Tryz.isAgg191
  z46 := Tryz.sizeOf191
  v46 := Tryz.zeroValue191
  t105 := Tryz.underlying279
  a105 := Tryz.isAgg279
  z105 := Tryz.sizeOf279
  v105 := Tryz.zeroValue279
  t116 := Tryz.underlying243
  a116 := Tryz.isAgg243
  z116 := Tryz.sizeOf243
  t117 := Tryz.underlying244
  a117 := Tryz.isAgg244
  z117 := Tryz.sizeOf244
  v117 := Tryz.zeroValue244
  t119 := Tryz.underlying310
  a119 := Tryz.isAgg310
  z119 := Tryz.sizeOf310
  t124 := Tryz.underlying247
  a124 := Tryz.isAgg247
  z124 := Tryz.sizeOf247
  v124 := Tryz.zeroValue247
  t138 := Tryz.underlying312
  a138 := Tryz.isAgg312
  z138 := Tryz.sizeOf312
  v138 := Tryz.zeroValue312
  t139 := Tryz.underlying313
  a139 := Tryz.isAgg313
  z139 := Tryz.sizeOf313
  v139 := Tryz.zeroValue313
  g3 := by kernel_rfl
  g4 := by kernel_rfl }
open Go.RowKit in
/-- strings.TrimRight: "TrimRight returns a slice of the string s, with all trailing Unicode code points contained in cutset removed.": AT A cutset OF ONE ASCII BYTE. The world is as it was. (LAID: no walk: one application.) -/
theorem Tryz.strings_TrimRight_one (s : ByteArray) (c : UInt8) (hc : c.toNat < 128) (w : World) (hs : s.size ≤ 9223372036854775807) :
    Calls Tryz.prog 188 #[.string s, .string ⟨#[c]⟩] w fun e w' => e = .returned (.string ⟨(Lib.trimRightB s.data.toList c).toArray⟩) ∧ w' = w := Any.strings_TrimRight_one Tryz.lays162 s c hc w hs
def Tryz.lays104_ren : Go.Shelf.Ren := ⟨fun | 104 => 120 | 211 => 177 | 207 => 216 | n => n, fun | 9 => 9 | 4 => 4 | 24 => 193 | 3 => 3 | n => n, fun | n => n⟩
theorem Tryz.lays104 : Go.Proofs.Lays.n104 Tryz.prog Tryz.lays104_ren := {
  mixed := by kernel_rfl
  f104 := Tryz.func120.trans (congrArg some (by kernel_rfl))
  f207 := Tryz.func216.trans (congrArg some (by kernel_rfl))
  f211 := Tryz.func177.trans (congrArg some (by kernel_rfl))
  t3 := Tryz.underlying3
  a3 := Tryz.isAgg3
  z3 := Tryz.sizeOf3
  v3 := Tryz.zeroValue3
  t4 := Tryz.underlying4
  a4 := Tryz.isAgg4
  z4 := Tryz.sizeOf4
  v4 := Tryz.zeroValue4
  t9 := Tryz.underlying9
  a9 := Tryz.isAgg9
  z9 := Tryz.sizeOf9
  v9 := Tryz.zeroValue9
  t24 := Tryz.underlying193
  a24 := Tryz.isAgg193
  z24 := Tryz.sizeOf193
  v24 := Tryz.zeroValue193 }
open Go.RowKit in
/-- strings.CutSuffix: "CutSuffix returns s without the provided ending suffix string and reports whether it found the suffix. If s doesn't end with suffix, CutSuffix returns s, false. If suffix is the empty string, CutSuffix returns s, true.": IT RETURNS '(Lib.trimSuffix s p, Lib.hasSuffix s p)'; the world is as it was. (LAID: no walk: one application.) -/
theorem Tryz.strings_CutSuffix (s p : ByteArray) (w : World) (hs : s.size ≤ 9223372036854775807) :
    Calls Tryz.prog 120 #[.string s, .string p] w fun e w' => e = .returned (.tuple #[.string ⟨(Lib.trimSuffix s.data.toList p.data.toList).toArray⟩, .bool (Lib.hasSuffix s.data.toList p.data.toList)]) ∧ w' = w := Any.strings_CutSuffix Tryz.lays104 s p w hs
def Tryz.laysM171_ren : Go.Shelf.Ren := ⟨fun | 171 => 161 | 243 => 195 | 246 => 170 | 283 => 209 | 284 => 210 | 285 => 211 | 286 => 212 | 129 => 239 | 317 => 238 | 318 => 240 | 319 => 241 | 320 => 242 | 337 => 246 | 338 => 247 | n => n, fun | 3 => 3 | 9 => 9 | 2 => 2 | 4 => 4 | 171 => 285 | 0 => 0 | 53 => 282 | 37 => 82 | 5 => 5 | 173 => 288 | 212 => 303 | 51 => 132 | 20 => 20 | 213 => 304 | 46 => 191 | 232 => 316 | 233 => 317 | n => n, fun | 17 => 4 | 18 => 7 | 19 => 8 | n => n⟩
theorem Tryz.laysM171 : Go.Proofs.LaysM.n171 Tryz.prog Tryz.laysM171_ren := {
  mixed := by kernel_rfl
  f129 := Tryz.func239.trans (congrArg some (by kernel_rfl))
  f171 := Tryz.func161.trans (congrArg some (by kernel_rfl))
  f243 := Tryz.func195.trans (congrArg some (by kernel_rfl))
  f246 := Tryz.func170.trans (congrArg some (by kernel_rfl))
  f283 := Tryz.func209.trans (congrArg some (by kernel_rfl))
  f284 := Tryz.func210.trans (congrArg some (by kernel_rfl))
  f285 := Tryz.func211.trans (congrArg some (by kernel_rfl))
  f286 := Tryz.func212.trans (congrArg some (by kernel_rfl))
  f317 := Tryz.func238.trans (congrArg some (by kernel_rfl))
  f318 := Tryz.func240.trans (congrArg some (by kernel_rfl))
  f319 := Tryz.func241.trans (congrArg some (by kernel_rfl))
  f320 := Tryz.func242.trans (congrArg some (by kernel_rfl))
  f337 := Tryz.func246.trans (congrArg some (by kernel_rfl))
  f338 := Tryz.func247.trans (congrArg some (by kernel_rfl))
  t0 := Tryz.underlying0
  a0 := Tryz.isAgg0
  z0 := Tryz.sizeOf0
  v0 := Tryz.zeroValue0
  t2 := Tryz.underlying2
  a2 := Tryz.isAgg2
  z2 := Tryz.sizeOf2
  v2 := Tryz.zeroValue2
  t3 := Tryz.underlying3
  a3 := Tryz.isAgg3
  z3 := Tryz.sizeOf3
  v3 := Tryz.zeroValue3
  t4 := Tryz.underlying4
  a4 := Tryz.isAgg4
  z4 := Tryz.sizeOf4
  v4 := Tryz.zeroValue4
  t5 := Tryz.underlying5
  a5 := Tryz.isAgg5
  z5 := Tryz.sizeOf5
  v5 := Tryz.zeroValue5
  t9 := Tryz.underlying9
  a9 := Tryz.isAgg9
  z9 := Tryz.sizeOf9
  v9 := Tryz.zeroValue9
  t20 := Tryz.underlying20
  a20 := Tryz.isAgg20
  z20 := Tryz.sizeOf20
  v20 := Tryz.zeroValue20
  t37 := Tryz.underlying82
  a37 := Tryz.isAgg82
  z37 := Tryz.sizeOf82
  v37 := Tryz.zeroValue82
  t46 := Tryz.underlying191
  a46 := Tryz.isAgg191
  z46 := Tryz.sizeOf191
  v46 := Tryz.zeroValue191
  t51 := Tryz.underlying132
  a51 := Tryz.isAgg132
  z51 := Tryz.sizeOf132
  v51 := Tryz.zeroValue132
  t53 := Tryz.underlying282
  a53 := Tryz.isAgg282
  z53 := Tryz.sizeOf282
  v53 := Tryz.zeroValue282
  t171 := Tryz.underlying285
  a171 := Tryz.isAgg285
  z171 := Tryz.sizeOf285
  v171 := Tryz.zeroValue285
  t173 := Tryz.underlying288
  a173 := Tryz.isAgg288
  z173 := Tryz.sizeOf288
  v173 := Tryz.zeroValue288
  t212 := Tryz.underlying303
  a212 := Tryz.isAgg303
  z212 := Tryz.sizeOf303
  v212 := Tryz.zeroValue303
  t213 := Tryz.underlying304
  a213 := Tryz.isAgg304
  z213 := Tryz.sizeOf304
  t232 := Tryz.underlying316
  a232 := Tryz.isAgg316
  z232 := Tryz.sizeOf316
  v232 := Tryz.zeroValue316
  t233 := Tryz.underlying317
  a233 := Tryz.isAgg317
  z233 := Tryz.sizeOf317
  v233 := Tryz.zeroValue317
  g17 := by kernel_rfl
  g18 := by kernel_rfl
  g19 := by kernel_rfl
  i0 := by kernel_rfl
  i2 := by kernel_rfl
  i3 := by kernel_rfl
  i4 := by kernel_rfl
  i5 := by kernel_rfl
  i9 := by kernel_rfl
  i20 := by kernel_rfl
  i37 := by kernel_rfl
  i46 := by kernel_rfl
  i51 := by kernel_rfl
  i53 := by kernel_rfl
  i171 := by kernel_rfl
  i173 := by kernel_rfl
  i212 := by kernel_rfl
  i232 := by kernel_rfl
  i233 := by kernel_rfl
  m17 := by kernel_rfl
  m18 := by kernel_rfl
  m19 := by kernel_rfl }
open Go.RowKit Go.Sort Go.Lib in
/-- strconv.Itoa: "Itoa is equivalent to FormatInt(int64(i), 10).": i's DECIMAL NUMERAL ('Lib.itoa': a '-' where i is negative, then the digits), FOR EVERY int. The world behind the call: the world before it, new blocks behind the heap (the library's 'var a [24]byte'), draws. (LAID: no walk: one application.) -/
theorem Tryz.strconv_Itoa (n : Int) (h0 : -9223372036854775808 ≤ n) (h1 : n ≤ 9223372036854775807) (w : World) (htab : Lib.TabIs Tryz.prog w "internal/strconv.uint64pow10" .u64 Lib.pow10Tab) :
    Calls Tryz.prog 161 #[.int .i64 n] w fun e w' => e = .returned (.string ⟨(Lib.itoa n).toArray⟩) ∧ ∃ k os, w' = grow (w.drewN k) os := Any.strconv_Itoa Tryz.laysM171 n h0 h1 w htab
def Tryz.laysM173_ren : Go.Shelf.Ren := ⟨fun | 173 => 114 | 246 => 170 | 283 => 209 | 284 => 210 | 285 => 211 | 286 => 212 | 129 => 239 | 317 => 238 | 318 => 240 | 319 => 241 | 320 => 242 | 337 => 246 | 338 => 247 | n => n, fun | 2 => 2 | 3 => 3 | 9 => 9 | 4 => 4 | 171 => 285 | 0 => 0 | 53 => 282 | 37 => 82 | 5 => 5 | 173 => 288 | 212 => 303 | 51 => 132 | 20 => 20 | 213 => 304 | 46 => 191 | 232 => 316 | 233 => 317 | n => n, fun | 17 => 4 | 18 => 7 | 19 => 8 | n => n⟩
theorem Tryz.laysM173 : Go.Proofs.LaysM.n173 Tryz.prog Tryz.laysM173_ren := {
  mixed := by kernel_rfl
  f129 := Tryz.func239.trans (congrArg some (by kernel_rfl))
  f173 := Tryz.func114.trans (congrArg some (by kernel_rfl))
  f246 := Tryz.func170.trans (congrArg some (by kernel_rfl))
  f283 := Tryz.func209.trans (congrArg some (by kernel_rfl))
  f284 := Tryz.func210.trans (congrArg some (by kernel_rfl))
  f285 := Tryz.func211.trans (congrArg some (by kernel_rfl))
  f286 := Tryz.func212.trans (congrArg some (by kernel_rfl))
  f317 := Tryz.func238.trans (congrArg some (by kernel_rfl))
  f318 := Tryz.func240.trans (congrArg some (by kernel_rfl))
  f319 := Tryz.func241.trans (congrArg some (by kernel_rfl))
  f320 := Tryz.func242.trans (congrArg some (by kernel_rfl))
  f337 := Tryz.func246.trans (congrArg some (by kernel_rfl))
  f338 := Tryz.func247.trans (congrArg some (by kernel_rfl))
  t0 := Tryz.underlying0
  a0 := Tryz.isAgg0
  z0 := Tryz.sizeOf0
  v0 := Tryz.zeroValue0
  t2 := Tryz.underlying2
  a2 := Tryz.isAgg2
  z2 := Tryz.sizeOf2
  v2 := Tryz.zeroValue2
  t3 := Tryz.underlying3
  a3 := Tryz.isAgg3
  z3 := Tryz.sizeOf3
  v3 := Tryz.zeroValue3
  t4 := Tryz.underlying4
  a4 := Tryz.isAgg4
  z4 := Tryz.sizeOf4
  v4 := Tryz.zeroValue4
  t5 := Tryz.underlying5
  a5 := Tryz.isAgg5
  z5 := Tryz.sizeOf5
  v5 := Tryz.zeroValue5
  t9 := Tryz.underlying9
  a9 := Tryz.isAgg9
  z9 := Tryz.sizeOf9
  v9 := Tryz.zeroValue9
  t20 := Tryz.underlying20
  a20 := Tryz.isAgg20
  z20 := Tryz.sizeOf20
  v20 := Tryz.zeroValue20
  t37 := Tryz.underlying82
  a37 := Tryz.isAgg82
  z37 := Tryz.sizeOf82
  v37 := Tryz.zeroValue82
  t46 := Tryz.underlying191
  a46 := Tryz.isAgg191
  z46 := Tryz.sizeOf191
  v46 := Tryz.zeroValue191
  t51 := Tryz.underlying132
  a51 := Tryz.isAgg132
  z51 := Tryz.sizeOf132
  v51 := Tryz.zeroValue132
  t53 := Tryz.underlying282
  a53 := Tryz.isAgg282
  z53 := Tryz.sizeOf282
  v53 := Tryz.zeroValue282
  t171 := Tryz.underlying285
  a171 := Tryz.isAgg285
  z171 := Tryz.sizeOf285
  v171 := Tryz.zeroValue285
  t173 := Tryz.underlying288
  a173 := Tryz.isAgg288
  z173 := Tryz.sizeOf288
  v173 := Tryz.zeroValue288
  t212 := Tryz.underlying303
  a212 := Tryz.isAgg303
  z212 := Tryz.sizeOf303
  v212 := Tryz.zeroValue303
  t213 := Tryz.underlying304
  a213 := Tryz.isAgg304
  z213 := Tryz.sizeOf304
  t232 := Tryz.underlying316
  a232 := Tryz.isAgg316
  z232 := Tryz.sizeOf316
  v232 := Tryz.zeroValue316
  t233 := Tryz.underlying317
  a233 := Tryz.isAgg317
  z233 := Tryz.sizeOf317
  v233 := Tryz.zeroValue317
  g17 := by kernel_rfl
  g18 := by kernel_rfl
  g19 := by kernel_rfl
  i0 := by kernel_rfl
  i2 := by kernel_rfl
  i3 := by kernel_rfl
  i4 := by kernel_rfl
  i5 := by kernel_rfl
  i9 := by kernel_rfl
  i20 := by kernel_rfl
  i37 := by kernel_rfl
  i46 := by kernel_rfl
  i51 := by kernel_rfl
  i53 := by kernel_rfl
  i171 := by kernel_rfl
  i173 := by kernel_rfl
  i212 := by kernel_rfl
  i232 := by kernel_rfl
  i233 := by kernel_rfl
  m17 := by kernel_rfl
  m18 := by kernel_rfl
  m19 := by kernel_rfl }
open Go.RowKit Go.Sort Go.Lib in
/-- strconv.FormatInt: "FormatInt returns the string representation of i in the given base": AT BASE 10: i's decimal numeral, for every int64. (LAID: no walk: one application.) -/
theorem Tryz.strconv_FormatInt_10 (n : Int) (h0 : -9223372036854775808 ≤ n) (h1 : n ≤ 9223372036854775807) (w : World) (htab : Lib.TabIs Tryz.prog w "internal/strconv.uint64pow10" .u64 Lib.pow10Tab) :
    Calls Tryz.prog 114 #[.int .i64 n, .int .i64 10] w fun e w' => e = .returned (.string ⟨(Lib.itoa n).toArray⟩) ∧ ∃ k os, w' = grow (w.drewN k) os := Any.strconv_FormatInt_10 Tryz.laysM173 n h0 h1 w htab
def Tryz.laysC172_ren : Go.Shelf.Ren := ⟨fun | 172 => 97 | 244 => 163 | 245 => 164 | 247 => 169 | 279 => 199 | 280 => 200 | 281 => 201 | 282 => 202 | 287 => 208 | 316 => 229 | 171 => 161 | 205 => 230 | 321 => 236 | 322 => 237 | 243 => 195 | 246 => 170 | 283 => 209 | 284 => 210 | 285 => 211 | 286 => 212 | 129 => 239 | 317 => 238 | 318 => 240 | 319 => 241 | 320 => 242 | 337 => 246 | 338 => 247 | n => n, fun | 9 => 9 | 3 => 3 | 75 => 28 | 76 => 165 | 4 => 4 | 5 => 5 | 167 => 275 | 37 => 82 | 0 => 0 | 85 => 29 | 2 => 2 | 168 => 276 | 53 => 282 | 175 => 283 | 46 => 191 | 210 => 298 | 127 => 240 | 145 => 309 | 143 => 307 | 21 => 21 | 171 => 285 | 173 => 288 | 212 => 303 | 51 => 132 | 20 => 20 | 213 => 304 | 232 => 316 | 233 => 317 | 80 => 184 | n => n, fun | 15 => 1 | 16 => 2 | 17 => 4 | 18 => 7 | 19 => 8 | n => n⟩
theorem Tryz.laysC172 : Go.Proofs.LaysC.n172 Tryz.prog Tryz.laysC172_ren := {
  mixed := by kernel_rfl
  f129 := Tryz.func239.trans (congrArg some (by kernel_rfl))
  f171 := Tryz.func161.trans (congrArg some (by kernel_rfl))
  f172 := Tryz.func97.trans (congrArg some (by kernel_rfl))
  f205 := Tryz.func230.trans (congrArg some (by kernel_rfl))
  f243 := Tryz.func195.trans (congrArg some (by kernel_rfl))
  f244 := Tryz.func163.trans (congrArg some (by kernel_rfl))
  f245 := Tryz.func164.trans (congrArg some (by kernel_rfl))
  f246 := Tryz.func170.trans (congrArg some (by kernel_rfl))
  f247 := Tryz.func169.trans (congrArg some (by kernel_rfl))
  f279 := Tryz.func199.trans (congrArg some (by kernel_rfl))
  f280 := Tryz.func200.trans (congrArg some (by kernel_rfl))
  f281 := Tryz.func201.trans (congrArg some (by kernel_rfl))
  f282 := Tryz.func202.trans (congrArg some (by kernel_rfl))
  f283 := Tryz.func209.trans (congrArg some (by kernel_rfl))
  f284 := Tryz.func210.trans (congrArg some (by kernel_rfl))
  f285 := Tryz.func211.trans (congrArg some (by kernel_rfl))
  f286 := Tryz.func212.trans (congrArg some (by kernel_rfl))
  f287 := Tryz.func208.trans (congrArg some (by kernel_rfl))
  f316 := Tryz.func229.trans (congrArg some (by kernel_rfl))
  f317 := Tryz.func238.trans (congrArg some (by kernel_rfl))
  f318 := Tryz.func240.trans (congrArg some (by kernel_rfl))
  f319 := Tryz.func241.trans (congrArg some (by kernel_rfl))
  f320 := Tryz.func242.trans (congrArg some (by kernel_rfl))
  f321 := Tryz.func236.trans (congrArg some (by kernel_rfl))
  f322 := Tryz.func237.trans (congrArg some (by kernel_rfl))
  f337 := Tryz.func246.trans (congrArg some (by kernel_rfl))
  f338 := Tryz.func247.trans (congrArg some (by kernel_rfl))
  t0 := Tryz.underlying0
  a0 := Tryz.isAgg0
  z0 := Tryz.sizeOf0
  v0 := Tryz.zeroValue0
  t2 := Tryz.underlying2
  a2 := Tryz.isAgg2
  z2 := Tryz.sizeOf2
  v2 := Tryz.zeroValue2
  t3 := Tryz.underlying3
  a3 := Tryz.isAgg3
  z3 := Tryz.sizeOf3
  v3 := Tryz.zeroValue3
  t4 := Tryz.underlying4
  a4 := Tryz.isAgg4
  z4 := Tryz.sizeOf4
  v4 := Tryz.zeroValue4
  t5 := Tryz.underlying5
  a5 := Tryz.isAgg5
  z5 := Tryz.sizeOf5
  v5 := Tryz.zeroValue5
  t9 := Tryz.underlying9
  a9 := Tryz.isAgg9
  z9 := Tryz.sizeOf9
  v9 := Tryz.zeroValue9
  t20 := Tryz.underlying20
  a20 := Tryz.isAgg20
  z20 := Tryz.sizeOf20
  v20 := Tryz.zeroValue20
  t21 := Tryz.underlying21
  a21 := Tryz.isAgg21
  z21 := Tryz.sizeOf21
  v21 := Tryz.zeroValue21
  t37 := Tryz.underlying82
  a37 := Tryz.isAgg82
  z37 := Tryz.sizeOf82
  v37 := Tryz.zeroValue82
  t46 := Tryz.underlying191
  a46 := Tryz.isAgg191
  z46 := Tryz.sizeOf191
  v46 := Tryz.zeroValue191
  t51 := Tryz.underlying132
  a51 := Tryz.isAgg132
  z51 := Tryz.sizeOf132
  v51 := Tryz.zeroValue132
  t53 := Tryz.underlying282
  a53 := Tryz.isAgg282
  z53 := Tryz.sizeOf282
  v53 := Tryz.zeroValue282
  t75 := Tryz.underlying28
  a75 := Tryz.isAgg28
  z75 := Tryz.sizeOf28
  v75 := Tryz.zeroValue28
  t76 := Tryz.underlying165
  a76 := Tryz.isAgg165
  z76 := Tryz.sizeOf165
  v76 := Tryz.zeroValue165
  t85 := Tryz.underlying29
  a85 := Tryz.isAgg29
  z85 := Tryz.sizeOf29
  v85 := Tryz.zeroValue29
  t127 := Tryz.underlying240
  a127 := Tryz.isAgg240
  z127 := Tryz.sizeOf240
  v127 := Tryz.zeroValue240
  t143 := Tryz.underlying307
  a143 := Tryz.isAgg307
  z143 := Tryz.sizeOf307
  v143 := Tryz.zeroValue307
  t145 := Tryz.underlying309
  a145 := Tryz.isAgg309
  z145 := Tryz.sizeOf309
  v145 := Tryz.zeroValue309
  t167 := Tryz.underlying275
  a167 := Tryz.isAgg275
  z167 := Tryz.sizeOf275
  v167 := Tryz.zeroValue275
  t168 := Tryz.underlying276
  a168 := Tryz.isAgg276
  z168 := Tryz.sizeOf276
  v168 := Tryz.zeroValue276
  t171 := Tryz.underlying285
  a171 := Tryz.isAgg285
  z171 := Tryz.sizeOf285
  v171 := Tryz.zeroValue285
  t173 := Tryz.underlying288
  a173 := Tryz.isAgg288
  z173 := Tryz.sizeOf288
  v173 := Tryz.zeroValue288
  t175 := Tryz.underlying283
  a175 := Tryz.isAgg283
  z175 := Tryz.sizeOf283
  v175 := Tryz.zeroValue283
  t210 := Tryz.underlying298
  a210 := Tryz.isAgg298
  z210 := Tryz.sizeOf298
  v210 := Tryz.zeroValue298
  t212 := Tryz.underlying303
  a212 := Tryz.isAgg303
  z212 := Tryz.sizeOf303
  v212 := Tryz.zeroValue303
  t213 := Tryz.underlying304
  a213 := Tryz.isAgg304
  z213 := Tryz.sizeOf304
  t232 := Tryz.underlying316
  a232 := Tryz.isAgg316
  z232 := Tryz.sizeOf316
  v232 := Tryz.zeroValue316
  t233 := Tryz.underlying317
  a233 := Tryz.isAgg317
  z233 := Tryz.sizeOf317
  v233 := Tryz.zeroValue317
  g15 := by kernel_rfl
  g16 := by kernel_rfl
  g17 := by kernel_rfl
  g18 := by kernel_rfl
  g19 := by kernel_rfl
  t80 := Tryz.underlying184
  a80 := Tryz.isAgg184
  z80 := Tryz.sizeOf184
  v80 := Tryz.zeroValue184
  i0 := by kernel_rfl
  i2 := by kernel_rfl
  i3 := by kernel_rfl
  i4 := by kernel_rfl
  i5 := by kernel_rfl
  i9 := by kernel_rfl
  i20 := by kernel_rfl
  i21 := by kernel_rfl
  i37 := by kernel_rfl
  i46 := by kernel_rfl
  i51 := by kernel_rfl
  i53 := by kernel_rfl
  i75 := by kernel_rfl
  i76 := by kernel_rfl
  i80 := by kernel_rfl
  i85 := by kernel_rfl
  i127 := by kernel_rfl
  i143 := by kernel_rfl
  i145 := by kernel_rfl
  i167 := by kernel_rfl
  i168 := by kernel_rfl
  i171 := by kernel_rfl
  i173 := by kernel_rfl
  i175 := by kernel_rfl
  i210 := by kernel_rfl
  i212 := by kernel_rfl
  i232 := by kernel_rfl
  i233 := by kernel_rfl
  m15 := by kernel_rfl
  m16 := by kernel_rfl
  m17 := by kernel_rfl
  m18 := by kernel_rfl
  m19 := by kernel_rfl
  c0 := by kernel_rfl
  c2 := by kernel_rfl
  c3 := by kernel_rfl
  c4 := by kernel_rfl
  c5 := by kernel_rfl
  c9 := by kernel_rfl
  c20 := by kernel_rfl
  c21 := by kernel_rfl
  c37 := by kernel_rfl
  c46 := by kernel_rfl
  c51 := by kernel_rfl
  c53 := by kernel_rfl
  c75 := by kernel_rfl
  c76 := by kernel_rfl
  c80 := by kernel_rfl
  c85 := by kernel_rfl
  c127 := by kernel_rfl
  c143 := by kernel_rfl
  c145 := by kernel_rfl
  c167 := by kernel_rfl
  c168 := by kernel_rfl
  c171 := by kernel_rfl
  c173 := by kernel_rfl
  c175 := by kernel_rfl
  c210 := by kernel_rfl
  c212 := by kernel_rfl
  c213 := by kernel_rfl
  c232 := by kernel_rfl
  c233 := by kernel_rfl }
open Go.RowKit in
/-- strconv.Atoi, AT EVERY STRING THAT SPELLS AN int ('Lib.atoiAll .. = .ok v'; of whatever length: leading zeros count): v, AND NO ERROR. The world: as it was, or with the one new row that '[]byte(..)' lays. (LAID: no walk: one application.) -/
theorem Tryz.strconv_Atoi_ok (s : ByteArray) (hmax : s.size ≤ 9223372036854775806) (v : Int) (h : Lib.atoiAll s.data.toList = .ok v) (w : World) :
    Calls Tryz.prog 97 #[.string s] w fun e w' => e = .returned (.tuple #[.int .i64 v, .nilIface]) ∧ (w' = w ∨ ∃ t, w' = Lib.bytesWorld w 5 t) := Any.strconv_Atoi_ok Tryz.laysC172 s hmax v h w
open Go.RowKit in
/-- strconv.Atoi, AT EVERY NUMERAL THAT NO int HOLDS ('.range'): THE GREATEST OR THE LEAST int, BY THE SIGN ('Lib.atoiSat'), AND AN ERROR THAT IS NOT nil: a *NumError in a new block N: {Func: "Atoi", Num: s's bytes, Err: what the variable ErrRange holds}. Of what was there nothing has turned. (LAID: no walk: one application.) -/
theorem Tryz.strconv_Atoi_range (s : ByteArray) (hlim : s.size ≤ 281474976710656) (h : Lib.atoiAll s.data.toList = .range) (ev : Value) (w : World) (hv : w.cell? ⟨2, 0, none⟩ = some ev) (hev : ev = .nilIface ∨ ∃ te pe, ev = .iface te pe) :
    Calls Tryz.prog 97 #[.string s] w fun e w' => ∃ N, e = .returned (.tuple #[.int .i64 (Lib.atoiSat s.data.toList), .iface 276 (.pointer (some ⟨N, 0, none⟩))]) ∧ w.heap.size ≤ N ∧ w'.heap[N]? = some (.cells #[.string ⟨#[65, 116, 111, 105]⟩, .string s, ev] 298 (0, 0)) ∧ Below w.heap.size w w' := Any.strconv_Atoi_range Tryz.laysC172 s hlim h ev w hv hev
def Tryz.laysC174_ren : Go.Shelf.Ren := ⟨fun | 174 => 113 | 247 => 169 | 245 => 164 | 287 => 208 | 279 => 199 | 280 => 200 | 281 => 201 | 282 => 202 | 321 => 236 | 322 => 237 | 316 => 229 | 171 => 161 | 205 => 230 | 243 => 195 | 246 => 170 | 283 => 209 | 284 => 210 | 285 => 211 | 286 => 212 | 129 => 239 | 317 => 238 | 318 => 240 | 319 => 241 | 320 => 242 | 337 => 246 | 338 => 247 | n => n, fun | 9 => 9 | 3 => 3 | 2 => 2 | 75 => 28 | 85 => 29 | 4 => 4 | 167 => 275 | 5 => 5 | 53 => 282 | 175 => 283 | 46 => 191 | 168 => 276 | 37 => 82 | 0 => 0 | 210 => 298 | 21 => 21 | 127 => 240 | 145 => 309 | 143 => 307 | 171 => 285 | 173 => 288 | 212 => 303 | 51 => 132 | 20 => 20 | 213 => 304 | 232 => 316 | 233 => 317 | 80 => 184 | n => n, fun | 15 => 1 | 16 => 2 | 17 => 4 | 18 => 7 | 19 => 8 | n => n⟩
theorem Tryz.laysC174 : Go.Proofs.LaysC.n174 Tryz.prog Tryz.laysC174_ren := {
  mixed := by kernel_rfl
  f129 := Tryz.func239.trans (congrArg some (by kernel_rfl))
  f171 := Tryz.func161.trans (congrArg some (by kernel_rfl))
  f174 := Tryz.func113.trans (congrArg some (by kernel_rfl))
  f205 := Tryz.func230.trans (congrArg some (by kernel_rfl))
  f243 := Tryz.func195.trans (congrArg some (by kernel_rfl))
  f245 := Tryz.func164.trans (congrArg some (by kernel_rfl))
  f246 := Tryz.func170.trans (congrArg some (by kernel_rfl))
  f247 := Tryz.func169.trans (congrArg some (by kernel_rfl))
  f279 := Tryz.func199.trans (congrArg some (by kernel_rfl))
  f280 := Tryz.func200.trans (congrArg some (by kernel_rfl))
  f281 := Tryz.func201.trans (congrArg some (by kernel_rfl))
  f282 := Tryz.func202.trans (congrArg some (by kernel_rfl))
  f283 := Tryz.func209.trans (congrArg some (by kernel_rfl))
  f284 := Tryz.func210.trans (congrArg some (by kernel_rfl))
  f285 := Tryz.func211.trans (congrArg some (by kernel_rfl))
  f286 := Tryz.func212.trans (congrArg some (by kernel_rfl))
  f287 := Tryz.func208.trans (congrArg some (by kernel_rfl))
  f316 := Tryz.func229.trans (congrArg some (by kernel_rfl))
  f317 := Tryz.func238.trans (congrArg some (by kernel_rfl))
  f318 := Tryz.func240.trans (congrArg some (by kernel_rfl))
  f319 := Tryz.func241.trans (congrArg some (by kernel_rfl))
  f320 := Tryz.func242.trans (congrArg some (by kernel_rfl))
  f321 := Tryz.func236.trans (congrArg some (by kernel_rfl))
  f322 := Tryz.func237.trans (congrArg some (by kernel_rfl))
  f337 := Tryz.func246.trans (congrArg some (by kernel_rfl))
  f338 := Tryz.func247.trans (congrArg some (by kernel_rfl))
  t0 := Tryz.underlying0
  a0 := Tryz.isAgg0
  z0 := Tryz.sizeOf0
  v0 := Tryz.zeroValue0
  t2 := Tryz.underlying2
  a2 := Tryz.isAgg2
  z2 := Tryz.sizeOf2
  v2 := Tryz.zeroValue2
  t3 := Tryz.underlying3
  a3 := Tryz.isAgg3
  z3 := Tryz.sizeOf3
  v3 := Tryz.zeroValue3
  t4 := Tryz.underlying4
  a4 := Tryz.isAgg4
  z4 := Tryz.sizeOf4
  v4 := Tryz.zeroValue4
  t5 := Tryz.underlying5
  a5 := Tryz.isAgg5
  z5 := Tryz.sizeOf5
  v5 := Tryz.zeroValue5
  t9 := Tryz.underlying9
  a9 := Tryz.isAgg9
  z9 := Tryz.sizeOf9
  v9 := Tryz.zeroValue9
  t20 := Tryz.underlying20
  a20 := Tryz.isAgg20
  z20 := Tryz.sizeOf20
  v20 := Tryz.zeroValue20
  t21 := Tryz.underlying21
  a21 := Tryz.isAgg21
  z21 := Tryz.sizeOf21
  v21 := Tryz.zeroValue21
  t37 := Tryz.underlying82
  a37 := Tryz.isAgg82
  z37 := Tryz.sizeOf82
  v37 := Tryz.zeroValue82
  t46 := Tryz.underlying191
  a46 := Tryz.isAgg191
  z46 := Tryz.sizeOf191
  v46 := Tryz.zeroValue191
  t51 := Tryz.underlying132
  a51 := Tryz.isAgg132
  z51 := Tryz.sizeOf132
  v51 := Tryz.zeroValue132
  t53 := Tryz.underlying282
  a53 := Tryz.isAgg282
  z53 := Tryz.sizeOf282
  v53 := Tryz.zeroValue282
  t75 := Tryz.underlying28
  a75 := Tryz.isAgg28
  z75 := Tryz.sizeOf28
  v75 := Tryz.zeroValue28
  t85 := Tryz.underlying29
  a85 := Tryz.isAgg29
  z85 := Tryz.sizeOf29
  v85 := Tryz.zeroValue29
  t127 := Tryz.underlying240
  a127 := Tryz.isAgg240
  z127 := Tryz.sizeOf240
  v127 := Tryz.zeroValue240
  t143 := Tryz.underlying307
  a143 := Tryz.isAgg307
  z143 := Tryz.sizeOf307
  v143 := Tryz.zeroValue307
  t145 := Tryz.underlying309
  a145 := Tryz.isAgg309
  z145 := Tryz.sizeOf309
  v145 := Tryz.zeroValue309
  t167 := Tryz.underlying275
  a167 := Tryz.isAgg275
  z167 := Tryz.sizeOf275
  v167 := Tryz.zeroValue275
  t168 := Tryz.underlying276
  a168 := Tryz.isAgg276
  z168 := Tryz.sizeOf276
  v168 := Tryz.zeroValue276
  t171 := Tryz.underlying285
  a171 := Tryz.isAgg285
  z171 := Tryz.sizeOf285
  v171 := Tryz.zeroValue285
  t173 := Tryz.underlying288
  a173 := Tryz.isAgg288
  z173 := Tryz.sizeOf288
  v173 := Tryz.zeroValue288
  t175 := Tryz.underlying283
  a175 := Tryz.isAgg283
  z175 := Tryz.sizeOf283
  v175 := Tryz.zeroValue283
  t210 := Tryz.underlying298
  a210 := Tryz.isAgg298
  z210 := Tryz.sizeOf298
  v210 := Tryz.zeroValue298
  t212 := Tryz.underlying303
  a212 := Tryz.isAgg303
  z212 := Tryz.sizeOf303
  v212 := Tryz.zeroValue303
  t213 := Tryz.underlying304
  a213 := Tryz.isAgg304
  z213 := Tryz.sizeOf304
  t232 := Tryz.underlying316
  a232 := Tryz.isAgg316
  z232 := Tryz.sizeOf316
  v232 := Tryz.zeroValue316
  t233 := Tryz.underlying317
  a233 := Tryz.isAgg317
  z233 := Tryz.sizeOf317
  v233 := Tryz.zeroValue317
  g15 := by kernel_rfl
  g16 := by kernel_rfl
  g17 := by kernel_rfl
  g18 := by kernel_rfl
  g19 := by kernel_rfl
  t80 := Tryz.underlying184
  a80 := Tryz.isAgg184
  z80 := Tryz.sizeOf184
  v80 := Tryz.zeroValue184
  i0 := by kernel_rfl
  i2 := by kernel_rfl
  i3 := by kernel_rfl
  i4 := by kernel_rfl
  i5 := by kernel_rfl
  i9 := by kernel_rfl
  i20 := by kernel_rfl
  i21 := by kernel_rfl
  i37 := by kernel_rfl
  i46 := by kernel_rfl
  i51 := by kernel_rfl
  i53 := by kernel_rfl
  i75 := by kernel_rfl
  i80 := by kernel_rfl
  i85 := by kernel_rfl
  i127 := by kernel_rfl
  i143 := by kernel_rfl
  i145 := by kernel_rfl
  i167 := by kernel_rfl
  i168 := by kernel_rfl
  i171 := by kernel_rfl
  i173 := by kernel_rfl
  i175 := by kernel_rfl
  i210 := by kernel_rfl
  i212 := by kernel_rfl
  i232 := by kernel_rfl
  i233 := by kernel_rfl
  m15 := by kernel_rfl
  m16 := by kernel_rfl
  m17 := by kernel_rfl
  m18 := by kernel_rfl
  m19 := by kernel_rfl
  c0 := by kernel_rfl
  c2 := by kernel_rfl
  c3 := by kernel_rfl
  c4 := by kernel_rfl
  c5 := by kernel_rfl
  c9 := by kernel_rfl
  c20 := by kernel_rfl
  c21 := by kernel_rfl
  c37 := by kernel_rfl
  c46 := by kernel_rfl
  c51 := by kernel_rfl
  c53 := by kernel_rfl
  c75 := by kernel_rfl
  c80 := by kernel_rfl
  c85 := by kernel_rfl
  c127 := by kernel_rfl
  c143 := by kernel_rfl
  c145 := by kernel_rfl
  c167 := by kernel_rfl
  c168 := by kernel_rfl
  c171 := by kernel_rfl
  c173 := by kernel_rfl
  c175 := by kernel_rfl
  c210 := by kernel_rfl
  c212 := by kernel_rfl
  c213 := by kernel_rfl
  c232 := by kernel_rfl
  c233 := by kernel_rfl }
open Go.RowKit in
/-- strconv.ParseInt(s, 10, 64), AT EVERY STRING THAT SPELLS AN int64 ('Lib.parseIntB 64 s.data.toList = .ok v'): v, AND NO ERROR. (LAID: no walk: one application.) -/
theorem Tryz.strconv_ParseInt_10_at64_ok (s : ByteArray) (hmax : s.size ≤ 9223372036854775806) (v : Int) (h : Lib.parseIntB 64 s.data.toList = .ok v) (w : World) :
    Calls Tryz.prog 113 #[.string s, .int .i64 10, .int .i64 64] w fun e w' => e = .returned (.tuple #[.int .i64 v, .nilIface]) ∧ (w' = w ∨ ∃ t, w' = Lib.bytesWorld w 5 t) := Any.strconv_ParseInt_10_at64_ok Tryz.laysC174 s hmax v h w
open Go.RowKit in
/-- strconv.ParseInt(s, 10, 64), AT EVERY NUMERAL THAT NO int64 HOLDS: THE GREATEST OR THE LEAST int64, BY THE SIGN ('Lib.intSat 64'), AND AN ERROR THAT IS NOT nil: a *NumError in a new block N: {Func: "ParseInt", Num: s's bytes, Err: what the variable ErrRange holds}. Of what was there nothing has turned. (LAID: no walk: one application.) -/
theorem Tryz.strconv_ParseInt_10_at64_range (s : ByteArray) (hlim : s.size ≤ 281474976710656) (h : Lib.parseIntB 64 s.data.toList = .range) (ev : Value) (w : World) (hv : w.cell? ⟨2, 0, none⟩ = some ev) (hev : ev = .nilIface ∨ ∃ te pe, ev = .iface te pe) :
    Calls Tryz.prog 113 #[.string s, .int .i64 10, .int .i64 64] w fun e w' => ∃ N, e = .returned (.tuple #[.int .i64 (Lib.intSat 64 s.data.toList), .iface 276 (.pointer (some ⟨N, 0, none⟩))]) ∧ w.heap.size ≤ N ∧ w'.heap[N]? = some (.cells #[.string ⟨#[80, 97, 114, 115, 101, 73, 110, 116]⟩, .string s, ev] 298 (0, 0)) ∧ Below w.heap.size w w' := Any.strconv_ParseInt_10_at64_range Tryz.laysC174 s hlim h ev w hv hev
open Go.RowKit in
/-- strconv.ParseInt(s, 10, 8), AT EVERY STRING THAT SPELLS AN int8 ('Lib.parseIntB 8 s.data.toList = .ok v'): v, AND NO ERROR. (LAID: no walk: one application.) -/
theorem Tryz.strconv_ParseInt_10_at8_ok (s : ByteArray) (hmax : s.size ≤ 9223372036854775806) (v : Int) (h : Lib.parseIntB 8 s.data.toList = .ok v) (w : World) :
    Calls Tryz.prog 113 #[.string s, .int .i64 10, .int .i64 8] w fun e w' => e = .returned (.tuple #[.int .i64 v, .nilIface]) ∧ (w' = w ∨ ∃ t, w' = Lib.bytesWorld w 5 t) := Any.strconv_ParseInt_10_at8_ok Tryz.laysC174 s hmax v h w
open Go.RowKit in
/-- strconv.ParseInt(s, 10, 8), AT EVERY NUMERAL THAT NO int8 HOLDS: THE GREATEST OR THE LEAST int8, BY THE SIGN ('Lib.intSat 8'), AND AN ERROR THAT IS NOT nil: a *NumError in a new block N: {Func: "ParseInt", Num: s's bytes, Err: what the variable ErrRange holds}. Of what was there nothing has turned. (LAID: no walk: one application.) -/
theorem Tryz.strconv_ParseInt_10_at8_range (s : ByteArray) (hlim : s.size ≤ 281474976710656) (h : Lib.parseIntB 8 s.data.toList = .range) (ev : Value) (w : World) (hv : w.cell? ⟨2, 0, none⟩ = some ev) (hev : ev = .nilIface ∨ ∃ te pe, ev = .iface te pe) :
    Calls Tryz.prog 113 #[.string s, .int .i64 10, .int .i64 8] w fun e w' => ∃ N, e = .returned (.tuple #[.int .i64 (Lib.intSat 8 s.data.toList), .iface 276 (.pointer (some ⟨N, 0, none⟩))]) ∧ w.heap.size ≤ N ∧ w'.heap[N]? = some (.cells #[.string ⟨#[80, 97, 114, 115, 101, 73, 110, 116]⟩, .string s, ev] 298 (0, 0)) ∧ Below w.heap.size w w' := Any.strconv_ParseInt_10_at8_range Tryz.laysC174 s hlim h ev w hv hev
def Tryz.laysM145_ren : Go.Shelf.Ren := ⟨fun | 145 => 104 | 220 => 166 | 219 => 205 | 217 => 176 | 225 => 232 | 224 => 233 | 267 => 234 | 266 => 215 | 314 => 245 | n => n, fun | 9 => 9 | 4 => 4 | 59 => 174 | 3 => 3 | 5 => 5 | 46 => 191 | 146 => 293 | 51 => 132 | n => n, fun | 1 => 3 | n => n⟩
theorem Tryz.laysM145 : Go.Proofs.LaysM.n145 Tryz.prog Tryz.laysM145_ren := {
  mixed := by kernel_rfl
  f145 := Tryz.func104.trans (congrArg some (by kernel_rfl))
  f217 := Tryz.func176.trans (congrArg some (by kernel_rfl))
  f219 := Tryz.func205.trans (congrArg some (by kernel_rfl))
  f220 := Tryz.func166.trans (congrArg some (by kernel_rfl))
  f224 := Tryz.func233.trans (congrArg some (by kernel_rfl))
  f225 := Tryz.func232.trans (congrArg some (by kernel_rfl))
  f266 := Tryz.func215.trans (congrArg some (by kernel_rfl))
  f267 := Tryz.func234.trans (congrArg some (by kernel_rfl))
  f314 := Tryz.func245.trans (congrArg some (by kernel_rfl))
  t3 := Tryz.underlying3
  a3 := Tryz.isAgg3
  z3 := Tryz.sizeOf3
  v3 := Tryz.zeroValue3
  t4 := Tryz.underlying4
  a4 := Tryz.isAgg4
  z4 := Tryz.sizeOf4
  v4 := Tryz.zeroValue4
  t5 := Tryz.underlying5
  a5 := Tryz.isAgg5
  z5 := Tryz.sizeOf5
  v5 := Tryz.zeroValue5
  t9 := Tryz.underlying9
  a9 := Tryz.isAgg9
  z9 := Tryz.sizeOf9
  v9 := Tryz.zeroValue9
  t46 := Tryz.underlying191
  a46 := Tryz.isAgg191
  z46 := Tryz.sizeOf191
  v46 := Tryz.zeroValue191
  t51 := Tryz.underlying132
  a51 := Tryz.isAgg132
  z51 := Tryz.sizeOf132
  v51 := Tryz.zeroValue132
  t59 := Tryz.underlying174
  a59 := Tryz.isAgg174
  z59 := Tryz.sizeOf174
  v59 := Tryz.zeroValue174
  t146 := Tryz.underlying293
  a146 := Tryz.isAgg293
  z146 := Tryz.sizeOf293
  v146 := Tryz.zeroValue293
  g1 := by kernel_rfl
  i3 := by kernel_rfl
  i4 := by kernel_rfl
  i5 := by kernel_rfl
  i9 := by kernel_rfl
  i46 := by kernel_rfl
  i51 := by kernel_rfl
  i59 := by kernel_rfl
  i146 := by kernel_rfl
  m1 := by kernel_rfl
  s1_3 := fun w h => Go.Proofs.cell_of_shapedOpen_int (zero := #[.int .i64 0]) (t := 3) h (of_decide_eq_true (by kernel_rfl)) (by kernel_rfl) rfl (by kernel_rfl) (by kernel_rfl) Tryz.underlying3 }
open Go.RowKit Go.Lib in
theorem Tryz.strings_Cut_shaped (s sep : ByteArray) (w : World) (h : w.ShapedOpen Tryz.prog) (hs : s.size < 4294967281) :
    Calls Tryz.prog 104 #[.string s, .string sep] w fun e w' => e = .returned (.tuple #[.string ⟨(Lib.cut s.data.toList sep.data.toList).1.toArray⟩, .string ⟨(Lib.cut s.data.toList sep.data.toList).2.1.toArray⟩, .bool (Lib.cut s.data.toList sep.data.toList).2.2]) ∧ ∃ n, w' = w.drewN n := Any.strings_Cut_shaped Tryz.laysM145 s sep w h hs
def Tryz.laysM146_ren : Go.Shelf.Ren := ⟨fun | 146 => 96 | 221 => 162 | 268 => 196 | 138 => 197 | 143 => 198 | 195 => 227 | 197 => 204 | 218 => 228 | 219 => 205 | 260 => 231 | 217 => 176 | 225 => 232 | 224 => 233 | 267 => 234 | 266 => 215 | 314 => 245 | n => n, fun | 9 => 9 | 31 => 90 | 3 => 3 | 4 => 4 | 0 => 0 | 105 => 279 | 21 => 21 | 5 => 5 | 46 => 191 | 119 => 310 | 139 => 313 | 138 => 312 | 146 => 293 | 51 => 132 | n => n, fun | 1 => 3 | 3 => 5 | 4 => 6 | n => n⟩
theorem Tryz.laysM146 : Go.Proofs.LaysM.n146 Tryz.prog Tryz.laysM146_ren := {
  mixed := by kernel_rfl
  f138 := Tryz.func197.trans (congrArg some (by kernel_rfl))
  f143 := Tryz.func198.trans (congrArg some (by kernel_rfl))
  f146 := Tryz.func96.trans (congrArg some (by kernel_rfl))
  f195 := Tryz.func227.trans (congrArg some (by kernel_rfl))
  f197 := Tryz.func204.trans (congrArg some (by kernel_rfl))
  f217 := Tryz.func176.trans (congrArg some (by kernel_rfl))
  f218 := Tryz.func228.trans (congrArg some (by kernel_rfl))
  f219 := Tryz.func205.trans (congrArg some (by kernel_rfl))
  f221 := Tryz.func162.trans (congrArg some (by kernel_rfl))
  f224 := Tryz.func233.trans (congrArg some (by kernel_rfl))
  f225 := Tryz.func232.trans (congrArg some (by kernel_rfl))
  f260 := Tryz.func231.trans (congrArg some (by kernel_rfl))
  f266 := Tryz.func215.trans (congrArg some (by kernel_rfl))
  f267 := Tryz.func234.trans (congrArg some (by kernel_rfl))
  f268 := Tryz.func196.trans (congrArg some (by kernel_rfl))
  f314 := Tryz.func245.trans (congrArg some (by kernel_rfl))
  t0 := Tryz.underlying0
  a0 := Tryz.isAgg0
  z0 := Tryz.sizeOf0
  v0 := Tryz.zeroValue0
  t3 := Tryz.underlying3
  a3 := Tryz.isAgg3
  z3 := Tryz.sizeOf3
  v3 := Tryz.zeroValue3
  t4 := Tryz.underlying4
  a4 := Tryz.isAgg4
  z4 := Tryz.sizeOf4
  v4 := Tryz.zeroValue4
  t5 := Tryz.underlying5
  a5 := Tryz.isAgg5
  z5 := Tryz.sizeOf5
  v5 := Tryz.zeroValue5
  t9 := Tryz.underlying9
  a9 := Tryz.isAgg9
  z9 := Tryz.sizeOf9
  v9 := Tryz.zeroValue9
  t21 := Tryz.underlying21
  a21 := Tryz.isAgg21
  z21 := Tryz.sizeOf21
  v21 := Tryz.zeroValue21
  t31 := Tryz.underlying90
  a31 := Tryz.isAgg90
  z31 := Tryz.sizeOf90
  v31 := Tryz.zeroValue90
  t46 := Tryz.underlying191
  a46 := Tryz.isAgg191
  z46 := Tryz.sizeOf191
  v46 := Tryz.zeroValue191
  t51 := Tryz.underlying132
  a51 := Tryz.isAgg132
  z51 := Tryz.sizeOf132
  v51 := Tryz.zeroValue132
  t105 := Tryz.underlying279
  a105 := Tryz.isAgg279
  z105 := Tryz.sizeOf279
  v105 := Tryz.zeroValue279
  t119 := Tryz.underlying310
  a119 := Tryz.isAgg310
  z119 := Tryz.sizeOf310
  t138 := Tryz.underlying312
  a138 := Tryz.isAgg312
  z138 := Tryz.sizeOf312
  v138 := Tryz.zeroValue312
  t139 := Tryz.underlying313
  a139 := Tryz.isAgg313
  z139 := Tryz.sizeOf313
  v139 := Tryz.zeroValue313
  t146 := Tryz.underlying293
  a146 := Tryz.isAgg293
  z146 := Tryz.sizeOf293
  v146 := Tryz.zeroValue293
  g1 := by kernel_rfl
  g3 := by kernel_rfl
  g4 := by kernel_rfl
  i0 := by kernel_rfl
  i3 := by kernel_rfl
  i4 := by kernel_rfl
  i5 := by kernel_rfl
  i9 := by kernel_rfl
  i21 := by kernel_rfl
  i31 := by kernel_rfl
  i46 := by kernel_rfl
  i51 := by kernel_rfl
  i105 := by kernel_rfl
  i138 := by kernel_rfl
  i139 := by kernel_rfl
  i146 := by kernel_rfl
  m1 := by kernel_rfl
  s1_3 := fun w h => Go.Proofs.cell_of_shapedOpen_int (zero := #[.int .i64 0]) (t := 3) h (of_decide_eq_true (by kernel_rfl)) (by kernel_rfl) rfl (by kernel_rfl) (by kernel_rfl) Tryz.underlying3
  m3 := by kernel_rfl
  m4 := by kernel_rfl }
open Go.RowKit Go.Lib in
/-- strings.Split, sep not empty. (LAID: no walk: one application.) -/
theorem Tryz.strings_Split_shaped (s sep : ByteArray) (w : World) (h : w.ShapedOpen Tryz.prog) (hs : s.size < 4294967281) (h1 : 1 ≤ sep.size) :
    Calls Tryz.prog 96 #[.string s, .string sep] w fun e w' =>
      e = .returned (.slice (some ⟨w.heap.size, 0, none⟩) (Lib.countB s sep + 1) (Lib.countB s sep + 1)) ∧ w' = w.alloc (.cells ((Lib.splitB sep 0 (Lib.countB s sep) s).map Value.string).toArray 9) := Any.strings_Split_shaped Tryz.laysM146 s sep w h hs h1
def Tryz.lays105_ren : Go.Shelf.Ren := ⟨fun | 105 => 155 | 212 => 189 | 99 => 190 | 165 => 168 | 166 => 109 | 170 => 111 | 169 => 112 | 263 => 223 | 264 => 224 | 206 => 225 | 240 => 167 | 241 => 207 | 276 => 206 | 277 => 235 | n => n, fun | 9 => 9 | 3 => 3 | 4 => 4 | 20 => 20 | 0 => 0 | 46 => 191 | 109 => 256 | 5 => 5 | 72 => 181 | 76 => 165 | 51 => 132 | 146 => 293 | 53 => 282 | 148 => 295 | 70 => 179 | 37 => 82 | 75 => 28 | 127 => 240 | 164 => 220 | 80 => 184 | n => n, fun | n => n⟩
theorem Tryz.lays105 : Go.Proofs.Lays.n105 Tryz.prog Tryz.lays105_ren := {
  mixed := by kernel_rfl
  f99 := Tryz.func190.trans (congrArg some (by kernel_rfl))
  f105 := Tryz.func155.trans (congrArg some (by kernel_rfl))
  f165 := Tryz.func168.trans (congrArg some (by kernel_rfl))
  f166 := Tryz.func109.trans (congrArg some (by kernel_rfl))
  f169 := Tryz.func112.trans (congrArg some (by kernel_rfl))
  f170 := Tryz.func111.trans (congrArg some (by kernel_rfl))
  f206 := Tryz.func225.trans (congrArg some (by kernel_rfl))
  f212 := Tryz.func189.trans (congrArg some (by kernel_rfl))
  f240 := Tryz.func167.trans (congrArg some (by kernel_rfl))
  f241 := Tryz.func207.trans (congrArg some (by kernel_rfl))
  f263 := Tryz.func223.trans (congrArg some (by kernel_rfl))
  f264 := Tryz.func224.trans (congrArg some (by kernel_rfl))
  f276 := Tryz.func206.trans (congrArg some (by kernel_rfl))
  f277 := Tryz.func235.trans (congrArg some (by kernel_rfl))
  t0 := Tryz.underlying0
  a0 := Tryz.isAgg0
  z0 := Tryz.sizeOf0
  v0 := Tryz.zeroValue0
  t3 := Tryz.underlying3
  a3 := Tryz.isAgg3
  z3 := Tryz.sizeOf3
  v3 := Tryz.zeroValue3
  t4 := Tryz.underlying4
  a4 := Tryz.isAgg4
  z4 := Tryz.sizeOf4
  v4 := Tryz.zeroValue4
  t5 := Tryz.underlying5
  a5 := Tryz.isAgg5
  z5 := Tryz.sizeOf5
  v5 := Tryz.zeroValue5
  t9 := Tryz.underlying9
  a9 := Tryz.isAgg9
  z9 := Tryz.sizeOf9
  v9 := Tryz.zeroValue9
  t20 := Tryz.underlying20
  a20 := Tryz.isAgg20
  z20 := Tryz.sizeOf20
  v20 := Tryz.zeroValue20
  t37 := Tryz.underlying82
  a37 := Tryz.isAgg82
  z37 := Tryz.sizeOf82
  v37 := Tryz.zeroValue82
  t46 := Tryz.underlying191
  a46 := Tryz.isAgg191
  z46 := Tryz.sizeOf191
  v46 := Tryz.zeroValue191
  t51 := Tryz.underlying132
  a51 := Tryz.isAgg132
  z51 := Tryz.sizeOf132
  v51 := Tryz.zeroValue132
  t53 := Tryz.underlying282
  a53 := Tryz.isAgg282
  z53 := Tryz.sizeOf282
  v53 := Tryz.zeroValue282
  t70 := Tryz.underlying179
  a70 := Tryz.isAgg179
  z70 := Tryz.sizeOf179
  v70 := Tryz.zeroValue179
  t72 := Tryz.underlying181
  a72 := Tryz.isAgg181
  z72 := Tryz.sizeOf181
  v72 := Tryz.zeroValue181
  t75 := Tryz.underlying28
  a75 := Tryz.isAgg28
  z75 := Tryz.sizeOf28
  v75 := Tryz.zeroValue28
  t76 := Tryz.underlying165
  a76 := Tryz.isAgg165
  z76 := Tryz.sizeOf165
  v76 := Tryz.zeroValue165
  t109 := Tryz.underlying256
  a109 := Tryz.isAgg256
  z109 := Tryz.sizeOf256
  v109 := Tryz.zeroValue256
  t127 := Tryz.underlying240
  a127 := Tryz.isAgg240
  z127 := Tryz.sizeOf240
  v127 := Tryz.zeroValue240
  t146 := Tryz.underlying293
  a146 := Tryz.isAgg293
  z146 := Tryz.sizeOf293
  v146 := Tryz.zeroValue293
  t148 := Tryz.underlying295
  a148 := Tryz.isAgg295
  z148 := Tryz.sizeOf295
  v148 := Tryz.zeroValue295
  t164 := Tryz.underlying220
  a164 := Tryz.isAgg220
  z164 := Tryz.sizeOf220
  v164 := Tryz.zeroValue220 }
theorem Tryz.Builder_Extra_105 : Builder.Extra Tryz.prog Tryz.lays105_ren := {
  sizeBuilder := by kernel_rfl
  liesBuilder := by kernel_rfl
  t5 := Tryz.underlying5
  a5 := Tryz.isAgg5
  z5 := Tryz.sizeOf5
  v5 := Tryz.zeroValue5
  infoByte := by kernel_rfl
  cellsByte := by kernel_rfl
  sizeByte := by kernel_rfl
  neB5 := by decide }
open Go.RowKit Go.Lib in
/-- **strings.Repeat: count ≥ 0, the result within one allocation: count copies of s.** (LAID: no walk: one application.) -/
theorem Tryz.strings_Repeat (s : ByteArray) (c : Nat) (w : World) (hc : c ≤ 9223372036854775807) (hlen : s.size * c ≤ 140737488355328) :
    Calls Tryz.prog 155 #[.string s, .int .i64 c] w fun e w' => e = .returned (.string ⟨(Lib.repeatL s.data.toList c).toArray⟩) ∧ Below w.heap.size w w' := Any.strings_Repeat Tryz.lays105 Tryz.Builder_Extra_105 s c w hc hlen
end Go.Proofs
end

section
/- What the walks lean on: the hypothesis 'Laid' (the package variables of Go's library hold what their initialisers lay; they lie below the call's own blocks) and how it is kept; the contracts of the library functions that the printed walks call; the contract of the laws' own 'num'. -/
namespace Go.Proofs.YtfjifhkgifefeaaGreatDoor.Giv
open Go.RowKit Go.Proofs.YtfjifhkgifefeaaGreatDoor
def errW : Option Int → Value
  | none => .nilIface
  | some c => .iface 157 (.int .i64 c)
theorem errW_none : errW none = .nilIface := rfl
theorem errW_some (c : Int) : errW (some c) = .iface 157 (.int .i64 c) := rfl
structure Laid (w : World) : Prop where
  shaped : w.ShapedOpen Tryz.prog
  tab : Lib.TabIs Tryz.prog w "internal/strconv.uint64pow10" .u64 Lib.pow10Tab
  syn : ∃ tp p, w.cell? ⟨1, 0, none⟩ = some (.iface tp p)
  rng : ∃ tp p, w.cell? ⟨2, 0, none⟩ = some (.iface tp p)
  typ : w.cell? ⟨0, 0, none⟩ = some (.iface 260 (.agg #[.pointer (some ⟨9, 28, none⟩)]))
  low : Tryz.prog.low ≤ w.heap.size
  nine : 9 ≤ w.heap.size
theorem gPow : Tryz.prog.globalNamed "internal/strconv.uint64pow10" = some 4 := by kernel_rfl
theorem Laid.below {w w' : World} (h : Laid w) (b : Below w.heap.size w w') : Laid w' := by
  have hn := h.nine
  refine ⟨h.shaped.keptBut (b.frame (fun _ => False)) (fun _ hp => hp.elim), ?_, ?_, ?_, ?_, Nat.le_trans h.low b.size, Nat.le_trans h.nine b.size⟩
  · have ht := h.tab
    unfold Lib.TabIs World.var? at ht ⊢
    simp only [gPow, Option.bind_some] at ht ⊢; rw [b.block 4 (by omega)]
    exact ht
  · obtain ⟨tp, p, e⟩ := h.syn
    exact ⟨tp, p, by rw [b.cell (p := ⟨1, 0, none⟩) (show 1 < w.heap.size by omega)]; exact e⟩
  · obtain ⟨tp, p, e⟩ := h.rng
    exact ⟨tp, p, by rw [b.cell (p := ⟨2, 0, none⟩) (show 2 < w.heap.size by omega)]; exact e⟩
  · rw [b.cell (p := ⟨0, 0, none⟩) (show 0 < w.heap.size by omega)]; exact h.typ
def strconv_Itoa.f (a0 : Int) : Option ByteArray := if -9223372036854775808 ≤ a0 ∧ a0 ≤ 9223372036854775807 then some ⟨(Lib.itoa a0).toArray⟩ else none
theorem strconv_Itoa.calls (a0 : Int) (r : ByteArray) (w : World) (hl_ : Laid w) (h : strconv_Itoa.f a0 = some r) :
    Calls Tryz.prog 161 #[.int .i64 a0] w fun e w' => e = .returned (.string r) ∧ Below w.heap.size w w' := by
  unfold strconv_Itoa.f at h
  split at h
  · rename_i hb
    obtain rfl := Option.some.inj h
    refine (Tryz.strconv_Itoa a0 hb.1 hb.2 w hl_.tab).mono ?_
    rintro e w' ⟨rfl, k, os, rfl⟩
    exact ⟨rfl, Lib.below_grow _ _ (Nat.le_refl _) _ _⟩
  · cases h
def strconv_FormatInt.f (a0 a1 : Int) : Option ByteArray := if a1 = 10 ∧ -9223372036854775808 ≤ a0 ∧ a0 ≤ 9223372036854775807 then some ⟨(Lib.itoa a0).toArray⟩ else none
theorem strconv_FormatInt.calls (a0 a1 : Int) (r : ByteArray) (w : World) (hl_ : Laid w) (h : strconv_FormatInt.f a0 a1 = some r) :
    Calls Tryz.prog 114 #[.int .i64 a0, .int .i64 a1] w fun e w' => e = .returned (.string r) ∧ Below w.heap.size w w' := by
  unfold strconv_FormatInt.f at h
  split at h
  · rename_i hb
    obtain ⟨rfl, h0, h1⟩ := hb
    obtain rfl := Option.some.inj h
    refine (Tryz.strconv_FormatInt_10 a0 h0 h1 w hl_.tab).mono ?_
    rintro e w' ⟨rfl, k, os, rfl⟩
    exact ⟨rfl, Lib.below_grow _ _ (Nat.le_refl _) _ _⟩
  · cases h
def strings_Repeat.f (a0 : ByteArray) (a1 : Int) : Option ByteArray := if 0 ≤ a1 ∧ a1 ≤ 9223372036854775807 ∧ a0.size * a1.toNat ≤ 140737488355328 then some ⟨(Lib.repeatL a0.data.toList a1.toNat).toArray⟩ else none
theorem strings_Repeat.calls (a0 : ByteArray) (a1 : Int) (r : ByteArray) (w : World) (h : strings_Repeat.f a0 a1 = some r) :
    Calls Tryz.prog 155 #[.string a0, .int .i64 a1] w fun e w' => e = .returned (.string r) ∧ Below w.heap.size w w' := by
  unfold strings_Repeat.f at h
  split at h
  · rename_i hb
    obtain ⟨h0, h1, h2⟩ := hb
    obtain rfl := Option.some.inj h
    obtain ⟨c, rfl⟩ : ∃ c : Nat, a1 = c := ⟨a1.toNat, by omega⟩
    exact Tryz.strings_Repeat a0 c w (by omega) h2
  · cases h
theorem below_as (w : World) (o0 o1 o2 o3 o4 : Obj) : Below w.heap.size w (((((w.alloc o0).alloc o1).alloc o2).alloc o3).alloc o4) :=
  (((((Below.refl _ _).alloc (Nat.le_refl _) _).alloc (by simp) _).alloc (by simp; omega) _).alloc (by simp; omega) _).alloc (by simp; omega) _
def fuseelaw07_num.f (a0 : Option Int) : Option Int := some (a0.getD 0)
theorem fuseelaw07_num.calls (a0 : Option Int) (r : Int) (w : World) (hl_ : Laid w) (h : fuseelaw07_num.f a0 = some r) :
    Calls Tryz.prog 23 #[errW a0] w fun e w' => e = .returned (.int .i64 r) ∧ Below w.heap.size w w' := by
  obtain rfl := Option.some.inj h
  clear h
  rcases a0 with _ | c
  · show Calls Tryz.prog 23 #[.nilIface] w fun e w' => e = .returned (.int .i64 0) ∧ Below w.heap.size w w'
    go_enter Tryz.func23, Tryz.ntmps23
    go_wp2
    go_ret
    exact ⟨rfl, (Below.refl _ _).alloc (Nat.le_refl _) _⟩
  · show Calls Tryz.prog 23 #[.iface 157 (.int .i64 c)] w fun e w' => e = .returned (.int .i64 c) ∧ Below w.heap.size w w'
    have hn := hl_.nine
    have hg : (w.alloc (.cells #[.int .i64 0] 157)).cell? ⟨0, 0, none⟩ = some (.iface 260 (.agg #[.pointer (some ⟨9, 28, none⟩)])) := by
      rw [World.cell?_alloc_lt _ _ ⟨0, 0, none⟩ (show 0 < w.heap.size by omega)]; exact hl_.typ
    have ht : (w.alloc (.cells #[.int .i64 0] 157)).cell? ⟨w.heap.size, 0, none⟩ = some (.int .i64 0) := by simp
    have hf : (w.alloc (.cells #[.int .i64 0] 157)).frozen? ⟨w.heap.size, 0, none⟩ = false := by simp
    have hu := Tryz.underlying157; clear hl_
    go_enter Tryz.func23, Tryz.ntmps23
    go_wp2_with (go_at_call 93; refine (as_hit c _ (.int .i64 0) _ hg ht hf).mono ?_; rintro e w' ⟨rfl, rfl⟩)
    go_ret
    exact ⟨rfl, below_as w _ _ _ _ _⟩
def fuseelaw08_num.f (a0 : Option Int) : Option Int := some (a0.getD 0)
theorem fuseelaw08_num.calls (a0 : Option Int) (r : Int) (w : World) (hl_ : Laid w) (h : fuseelaw08_num.f a0 = some r) :
    Calls Tryz.prog 36 #[errW a0] w fun e w' => e = .returned (.int .i64 r) ∧ Below w.heap.size w w' := by
  obtain rfl := Option.some.inj h
  clear h
  rcases a0 with _ | c
  · show Calls Tryz.prog 36 #[.nilIface] w fun e w' => e = .returned (.int .i64 0) ∧ Below w.heap.size w w'
    go_enter Tryz.func36, Tryz.ntmps36
    go_wp2
    go_ret
    exact ⟨rfl, (Below.refl _ _).alloc (Nat.le_refl _) _⟩
  · show Calls Tryz.prog 36 #[.iface 157 (.int .i64 c)] w fun e w' => e = .returned (.int .i64 c) ∧ Below w.heap.size w w'
    have hn := hl_.nine
    have hg : (w.alloc (.cells #[.int .i64 0] 157)).cell? ⟨0, 0, none⟩ = some (.iface 260 (.agg #[.pointer (some ⟨9, 28, none⟩)])) := by
      rw [World.cell?_alloc_lt _ _ ⟨0, 0, none⟩ (show 0 < w.heap.size by omega)]; exact hl_.typ
    have ht : (w.alloc (.cells #[.int .i64 0] 157)).cell? ⟨w.heap.size, 0, none⟩ = some (.int .i64 0) := by simp
    have hf : (w.alloc (.cells #[.int .i64 0] 157)).frozen? ⟨w.heap.size, 0, none⟩ = false := by simp
    have hu := Tryz.underlying157; clear hl_
    go_enter Tryz.func36, Tryz.ntmps36
    go_wp2_with (go_at_call 93; refine (as_hit c _ (.int .i64 0) _ hg ht hf).mono ?_; rintro e w' ⟨rfl, rfl⟩)
    go_ret
    exact ⟨rfl, below_as w _ _ _ _ _⟩
def fuseelaw39_num.f (a0 : Option Int) : Option Int := some (a0.getD 0)
theorem fuseelaw39_num.calls (a0 : Option Int) (r : Int) (w : World) (hl_ : Laid w) (h : fuseelaw39_num.f a0 = some r) :
    Calls Tryz.prog 55 #[errW a0] w fun e w' => e = .returned (.int .i64 r) ∧ Below w.heap.size w w' := by
  obtain rfl := Option.some.inj h
  clear h
  rcases a0 with _ | c
  · show Calls Tryz.prog 55 #[.nilIface] w fun e w' => e = .returned (.int .i64 0) ∧ Below w.heap.size w w'
    go_enter Tryz.func55, Tryz.ntmps55
    go_wp2
    go_ret
    exact ⟨rfl, (Below.refl _ _).alloc (Nat.le_refl _) _⟩
  · show Calls Tryz.prog 55 #[.iface 157 (.int .i64 c)] w fun e w' => e = .returned (.int .i64 c) ∧ Below w.heap.size w w'
    have hn := hl_.nine
    have hg : (w.alloc (.cells #[.int .i64 0] 157)).cell? ⟨0, 0, none⟩ = some (.iface 260 (.agg #[.pointer (some ⟨9, 28, none⟩)])) := by
      rw [World.cell?_alloc_lt _ _ ⟨0, 0, none⟩ (show 0 < w.heap.size by omega)]; exact hl_.typ
    have ht : (w.alloc (.cells #[.int .i64 0] 157)).cell? ⟨w.heap.size, 0, none⟩ = some (.int .i64 0) := by simp
    have hf : (w.alloc (.cells #[.int .i64 0] 157)).frozen? ⟨w.heap.size, 0, none⟩ = false := by simp
    have hu := Tryz.underlying157; clear hl_
    go_enter Tryz.func55, Tryz.ntmps55
    go_wp2_with (go_at_call 93; refine (as_hit c _ (.int .i64 0) _ hg ht hf).mono ?_; rintro e w' ⟨rfl, rfl⟩)
    go_ret
    exact ⟨rfl, below_as w _ _ _ _ _⟩
def fuseelaw42_num.f (a0 : Option Int) : Option Int := some (a0.getD 0)
theorem fuseelaw42_num.calls (a0 : Option Int) (r : Int) (w : World) (hl_ : Laid w) (h : fuseelaw42_num.f a0 = some r) :
    Calls Tryz.prog 73 #[errW a0] w fun e w' => e = .returned (.int .i64 r) ∧ Below w.heap.size w w' := by
  obtain rfl := Option.some.inj h
  clear h
  rcases a0 with _ | c
  · show Calls Tryz.prog 73 #[.nilIface] w fun e w' => e = .returned (.int .i64 0) ∧ Below w.heap.size w w'
    go_enter Tryz.func73, Tryz.ntmps73
    go_wp2
    go_ret
    exact ⟨rfl, (Below.refl _ _).alloc (Nat.le_refl _) _⟩
  · show Calls Tryz.prog 73 #[.iface 157 (.int .i64 c)] w fun e w' => e = .returned (.int .i64 c) ∧ Below w.heap.size w w'
    have hn := hl_.nine
    have hg : (w.alloc (.cells #[.int .i64 0] 157)).cell? ⟨0, 0, none⟩ = some (.iface 260 (.agg #[.pointer (some ⟨9, 28, none⟩)])) := by
      rw [World.cell?_alloc_lt _ _ ⟨0, 0, none⟩ (show 0 < w.heap.size by omega)]; exact hl_.typ
    have ht : (w.alloc (.cells #[.int .i64 0] 157)).cell? ⟨w.heap.size, 0, none⟩ = some (.int .i64 0) := by simp
    have hf : (w.alloc (.cells #[.int .i64 0] 157)).frozen? ⟨w.heap.size, 0, none⟩ = false := by simp
    have hu := Tryz.underlying157; clear hl_
    go_enter Tryz.func73, Tryz.ntmps73
    go_wp2_with (go_at_call 93; refine (as_hit c _ (.int .i64 0) _ hg ht hf).mono ?_; rintro e w' ⟨rfl, rfl⟩)
    go_ret
    exact ⟨rfl, below_as w _ _ _ _ _⟩
def fuseelaw43_num.f (a0 : Option Int) : Option Int := some (a0.getD 0)
theorem fuseelaw43_num.calls (a0 : Option Int) (r : Int) (w : World) (hl_ : Laid w) (h : fuseelaw43_num.f a0 = some r) :
    Calls Tryz.prog 88 #[errW a0] w fun e w' => e = .returned (.int .i64 r) ∧ Below w.heap.size w w' := by
  obtain rfl := Option.some.inj h
  clear h
  rcases a0 with _ | c
  · show Calls Tryz.prog 88 #[.nilIface] w fun e w' => e = .returned (.int .i64 0) ∧ Below w.heap.size w w'
    go_enter Tryz.func88, Tryz.ntmps88
    go_wp2
    go_ret
    exact ⟨rfl, (Below.refl _ _).alloc (Nat.le_refl _) _⟩
  · show Calls Tryz.prog 88 #[.iface 157 (.int .i64 c)] w fun e w' => e = .returned (.int .i64 c) ∧ Below w.heap.size w w'
    have hn := hl_.nine
    have hg : (w.alloc (.cells #[.int .i64 0] 157)).cell? ⟨0, 0, none⟩ = some (.iface 260 (.agg #[.pointer (some ⟨9, 28, none⟩)])) := by
      rw [World.cell?_alloc_lt _ _ ⟨0, 0, none⟩ (show 0 < w.heap.size by omega)]; exact hl_.typ
    have ht : (w.alloc (.cells #[.int .i64 0] 157)).cell? ⟨w.heap.size, 0, none⟩ = some (.int .i64 0) := by simp
    have hf : (w.alloc (.cells #[.int .i64 0] 157)).frozen? ⟨w.heap.size, 0, none⟩ = false := by simp
    have hu := Tryz.underlying157; clear hl_
    go_enter Tryz.func88, Tryz.ntmps88
    go_wp2_with (go_at_call 93; refine (as_hit c _ (.int .i64 0) _ hg ht hf).mono ?_; rintro e w' ⟨rfl, rfl⟩)
    go_ret
    exact ⟨rfl, below_as w _ _ _ _ _⟩
end Go.Proofs.YtfjifhkgifefeaaGreatDoor.Giv
end

section
/- Words for regions whose order is drawn: steps told shortly. -/
namespace Go.Proofs.YtfjifhkgifefeaaGreatDoorW.PrintLast
open Go.Proofs.YtfjifhkgifefeaaGreatDoorW.PrintWords (Aside0)
/-- The operations whose bit stands in m have run, out of n. -/
def bs (n m : Nat) : Array Bool := ((List.range n).map fun i => m.testBit i).toArray
/-- The first m of n have run. -/
def bq (n m : Nat) : Array Bool := ((List.range n).map fun i => Nat.blt i m).toArray
section
variable {P : Program} {ops : Array Oper} {Q : Exit → Act → World → Prop} {md : Region.Mode} {S : World → Prop} {ds : List Nat} {N : Option Tmp} {oi : Oper} {v : Value} {fuel n m : Nat} {a a' : Act} {w : World} {l l' : Array Bool}
theorem pu (i : Nat) (l' : Array Bool) (hi : ops[i]? = some oi) (hN : oi.dst = N) (hc : anyB md ops l l' i = true) (hQ : ∀ c a w, Q (.panic c) (a.put oi.dst v) w → Q (.panic c) a w) (hw : Region.wanted oi (yielded ops a.tmps) = true)
    (hr : ∀ w, (execOp a.eval oi).run P w = .ok (.value v) w) (ha : a.put N v = a') (h : wpAnyLast P md ops Q S ds fuel l' a' w) : wpAnyLast P md ops Q S ds (fuel + 1) l a w := pure_ l' hi hN hc hQ (.inl ⟨hw, hr⟩) ha h
theorem tu (i : Nat) (l' : Array Bool) (hS : S w) (hi : ops[i]? = some oi) (hN : oi.dst = N) (hc : takeB md ops ds l l' i = true) (hQ : ∀ c a w, Q (.panic c) (a.put oi.dst v) w → Q (.panic c) a w) (hw : Region.wanted oi (yielded ops a.tmps) = true)
    (hr : ∀ w, S w → (execOp a.eval oi).run P w = .ok (.value v) w) (ha : a.put N v = a') (h : wpAnyLast P md ops Q S ds fuel l' a' w) : wpAnyLast P md ops Q S ds (fuel + 1) l a w := take_ l' hi hN hc hQ (.inl ⟨hw, hr⟩) hS ha h
theorem ou (i : Nat) (l' : Array Bool) (hi : ops[i]? = some oi) (hN : oi.dst = N) (hc : anyB md ops l l' i = true) (hQ : ∀ c a w, Q (.panic c) (a.put oi.dst undef) w → Q (.panic c) a w) (hw : Region.wanted oi (yielded ops a.tmps) = false)
    (ha : a.put N undef = a') (h : wpAnyLast P md ops Q S ds fuel l' a' w) : wpAnyLast P md ops Q S ds (fuel + 1) l a w := pure_ l' hi hN hc hQ (.inr ⟨hw, rfl⟩) ha h
end
end Go.Proofs.YtfjifhkgifefeaaGreatDoorW.PrintLast
end

section
/- Side proofs of the printed walks, told once: a lemma's own way of proving its premises stands as its default. -/
namespace Go.Proofs.YtfjifhkgifefeaaGreatDoor.Giv
open Go.RowKit Go.Proofs.YtfjifhkgifefeaaGreatDoor Go.Proofs.YtfjifhkgifefeaaGreatDoorW.PrintWords Go.Proofs.YtfjifhkgifefeaaGreatDoorW.PrintLast Go.Proofs.YtfjifhkgifefeaaGreatDoorW.PrintMore
theorem bl_ {B : Nat} {w w' : World} (h : Below B w w' := by repeat (first | (with_reducible first | exact HB.out | apply below_alloc | apply pw_below_drewN | apply below_drew1 | refine below_set ?_ (Nat.le_refl _) | refine below_set ?_ (Aside0.out (by assumption))) | exact HB.out)) : Below B w w' := h
theorem sz_ {w w' : World} {g : Nat} (hg : g = w'.heap.size) (h : Below w.heap.size w w' := by repeat (first | (with_reducible first | exact HB.out | apply below_alloc | apply pw_below_drewN | apply below_drew1 | refine below_set ?_ (Nat.le_refl _) | refine below_set ?_ (Aside0.out (by assumption))) | exact HB.out)) : w.heap.size ≤ g := by rw [hg]; exact below_size h
theorem bk_ {w : World} {g : Nat} {o : Obj} (h : w.heap[g]? = some o := by (with_reducible repeat first | apply blk_drewN | apply blk_drew | apply blk_alloc); exact Aside0.out (by assumption)) : w.heap[g]? = some o := h
theorem bu_ {w : World} {g : Nat} {t : TypeId} {cs : Array Value} (h : w.heap[g]? = some (.cells cs t (0, 0)) := by
    repeat' (first | (with_reducible exact Aside0.out (by assumption)) | with_reducible refine blk_drewN ?_ _ | with_reducible refine blk_drew ?_ | with_reducible refine blk_alloc ?_ _ | refine blk_far ?_ (Aside0.out (by assumption)) _ | refine blk_put (cs := ?_) ?_ _ _ ?_)
    all_goals rfl) : w.heap[g]? = some (.cells cs t (0, 0)) := h
theorem dr_ {w w' : World} (h : Drawn0 w w' := by repeat (first | exact Drawn0.refl _ | apply Drawn0.step)) : Drawn0 w w' := h
theorem ed_ {p q : Prop} (h : p := by first | rfl | (simp; done) | (simp [*]; done)) (g : q := by repeat (first | exact Drawn0.refl _ | apply Drawn0.step)) : p ∧ q := ⟨h, g⟩
theorem dn_ {p q : Prop} (h : p ∧ q := by first | exact ⟨rfl, _, World.drewN_drewN _ _ _⟩ | exact ⟨rfl, _, Eq.trans (World.drewN_drewN _ _ _) (congrArg (World.drewN _) (Nat.add_assoc _ _ _))⟩) : p ∧ q := h
theorem bb_ {w w1 w2 : World} {g : Nat} {o : Obj} (_hk : w.heap[g]? = some o) (hb : Below w1.heap.size w1 w2) (h : w1.heap[g]? = some o := by (with_reducible repeat first | apply blk_drewN | apply blk_drew | apply blk_alloc); exact Aside0.out (by assumption)) : Aside0 (w2.heap[g]? = some o) := ⟨blk_below h hb⟩
theorem bs_ {w w1 w2 : World} (hb : Below w1.heap.size w1 w2) (h : Below w.heap.size w w1 := by exact bl_) : Aside0 (Below w.heap.size w w2) := ⟨below_step h hb⟩
theorem ev_ {α : Type} {a b : α} (h : a = b := by (try simp only [List.map_toArray, List.map_cons, List.map_nil]); first | done | rfl | (simp only [List.length_drop, List.length_take]; rfl) | (simp [wrap64, Act.eval]; omega)) : a = b := h
theorem lb_ {w' : World} (h : Laid w' := by first | exact Laid.below HL.out bl_) : Laid w' := h
theorem as_ {p : Prop} (h : p := by first | (with_reducible assumption) | assumption) : p := h
theorem en_ {p q : Prop} (h : p := by first | rfl | (simp [errW_none, errW_some] <;> rfl) | (simp [*, errW_none, errW_some] <;> rfl)) (g : q := by exact bl_) : p ∧ q := ⟨h, g⟩
theorem em_ {p q : Prop} (h : p := by first | rfl | (simp; done) | (simp [*]; done)) (g : q := by exact bl_) : p ∧ q := ⟨h, g⟩
theorem rs_ {p : Prop} (h : p := by first | rfl | (simp; done) | (simp [*]; done)) : p := h
section
variable {P : Program} {ops : Array Oper} {rest : List Oper} {Q : Exit → Act → World → Prop} {o : Oper} {a : Act} {W : World}
theorem be_ {N : Tmp} {cs : Array Value} {t : TypeId}
    (h : ∀ g, g = W.heap.size → ∀ w1, w1.heap[g]? = some (.cells cs t (0, 0)) → Below W.heap.size W w1 → wpList P ops Q rest (a.put o.dst (.pointer (some ⟨g, 0, none⟩))) w1)
    (hd : o.dst = some N := by rfl) (hgd : o.guard = none := by rfl)
    (hrun : (execOp a.eval o).run P W = .ok (.value (.pointer (some ⟨W.heap.size, 0, none⟩))) (W.alloc (.cells cs t (0, 0))) := by first | (go_simp; done) | (go_simp; rfl)) : wpList P ops Q (o :: rest) a W := box_event hgd hd hrun h
theorem gc_ {oi : Oper} {w : World} (N : Option Tmp) {f : FuncId} {fn : Func} {az : Array Operand} {ts : Array TypeId} {args : Array Value} {Q' : Ending → World → Prop} (hf : P.funcs[f]? = some fn) (hc : Calls P f args w Q')
    (h : ∀ e w', Q' e w' → ∃ v, e = .returned v ∧ wpList P ops Q rest (a.put N v) w') (hd : oi.dst = N := by rfl) (hg : oi.guard = none := by rfl) (hop : oi.op = .call { callee := .value (.func f), args := az, argTypes := ts } := by rfl)
    (hname : (fn.name == "runtime.NumGoroutine") = false := by kernel_rfl) (hb : fn.body.isSome = true := by rfl) (hargs : az.map a.eval = args := by exact ev_) : wpList P ops Q (oi :: rest) a w :=
  goesL_ N hd hg hf hname hb args hop hargs (hc.mono h)
theorem gd_ {oi : Oper} {w : World} (N : Option Tmp) {f : FuncId} {fn : Func} {az : Array Operand} {ts : Array TypeId} {args : Array Value} {v : Value} (hf : P.funcs[f]? = some fn) (hc : Calls P f args w fun e w' => e = .returned v ∧ Below w.heap.size w w')
    (h : ∀ w', Below w.heap.size w w' → wpList P ops Q rest (a.put N v) w') (hd : oi.dst = N := by rfl) (hg : oi.guard = none := by rfl) (hop : oi.op = .call { callee := .value (.func f), args := az, argTypes := ts } := by rfl)
    (hname : (fn.name == "runtime.NumGoroutine") = false := by kernel_rfl) (hb : fn.body.isSome = true := by rfl) (hargs : az.map a.eval = args := by exact ev_) : wpList P ops Q (oi :: rest) a w :=
  gc_ N hf hc (fun e w' q => ⟨v, q.1, h w' q.2⟩) hd hg hop hname hb hargs
end
end Go.Proofs.YtfjifhkgifefeaaGreatDoor.Giv
namespace Go.Proofs.YtfjifhkgifefeaaGreatDoorW.PrintLast
open Go.Proofs.YtfjifhkgifefeaaGreatDoorW.PrintWords (Aside0)
open Go.RowKit Go.Proofs.YtfjifhkgifefeaaGreatDoorW.PrintMore
section
variable {P : Program} {ops : Array Oper} {Q : Exit → Act → World → Prop} {md : Region.Mode} {S : World → Prop} {ds : List Nat} {oi : Oper} {v : Value} {fuel n m : Nat} {a a' : Act} {w : World} {l : Array Bool}
theorem pa (i : Nat) (l' : Array Bool) (N : Option Tmp) (h : wpAnyLast P md ops Q S ds fuel l' a' w) (hi : ops[i]? = some oi := by rfl) (hN : oi.dst = N := by rfl) (hc : anyB md ops l l' i = true := by exact any_of HT_.out (by kernel_rfl)) (hQ : ∀ c a w, Q (.panic c) (a.put oi.dst v) w → Q (.panic c) a w := by exact fun _ _ _ h => h) (hw : Region.wanted oi (yielded ops a.tmps) = true := by rfl)
    (hr : ∀ w, (execOp a.eval oi).run P w = .ok (.value v) w := by intro w'; go_simp; with_reducible rfl) (ha : a.put N v = a' := by simp only [Act.put, List.setIfInBounds_toArray, List.set_cons_zero, List.set_cons_succ, i64_w, i32_w]; rfl) : wpAnyLast P md ops Q S ds (fuel + 1) l a w := pu i l' hi hN hc hQ hw hr ha h
theorem oa (i : Nat) (l' : Array Bool) (N : Option Tmp) (h : wpAnyLast P md ops Q S ds fuel l' a' w) (hi : ops[i]? = some oi := by rfl) (hN : oi.dst = N := by rfl) (hc : anyB md ops l l' i = true := by exact any_of HT_.out (by kernel_rfl)) (hQ : ∀ c a w, Q (.panic c) (a.put oi.dst undef) w → Q (.panic c) a w := by exact fun _ _ _ h => h) (hw : Region.wanted oi (yielded ops a.tmps) = false := by rfl)
    (ha : a.put N undef = a' := by simp only [Act.put, List.setIfInBounds_toArray, List.set_cons_zero, List.set_cons_succ, i64_w, i32_w]; rfl) : wpAnyLast P md ops Q S ds (fuel + 1) l a w := ou i l' hi hN hc hQ hw ha h
end
end Go.Proofs.YtfjifhkgifefeaaGreatDoorW.PrintLast
end

section
namespace Go.Proofs.YtfjifhkgifefeaaGreatDoor.PA
open Go.Proofs.YtfjifhkgifefeaaGreatDoor.Giv Go.RowKit Go.Proofs.YtfjifhkgifefeaaGreatDoorW.PrintWords Go.Proofs.YtfjifhkgifefeaaGreatDoorW.PrintLast Go.Proofs.YtfjifhkgifefeaaGreatDoorW.PrintMore
attribute [local go_sem] max2_int min2_int max_two min_two max_three min_three max_four min_four   -- for this text's walks alone
set_option linter.unusedVariables false
set_option linter.unusedSimpArgs false
end Go.Proofs.YtfjifhkgifefeaaGreatDoor.PA
end

section
namespace Go.Proofs.YtfjifhkgifefeaaGreatDoor.PA
open Giv Go.RowKit YtfjifhkgifefeaaGreatDoorW.PrintWords YtfjifhkgifefeaaGreatDoorW.PrintLast YtfjifhkgifefeaaGreatDoorW.PrintMore
attribute [local go_sem] max2_int min2_int max_two min_two max_three min_three max_four min_four
set_option linter.unusedVariables false
set_option linter.unusedSimpArgs false
def civil_Leap.f (a0 : Int) : Option (Bool) := if (Int.tmod a0 4) = 0 then (if (Int.tmod a0 100) = 0 then (some ((Int.tmod a0 400) == 0)) else (some true)) else (some false)
theorem civil_Leap.calls (a0 : Int) (r : Bool) (w : World) (h : civil_Leap.f a0 = some r) :
  Calls Tryz.prog 20 #[.int .i64 a0] w fun e w' => e = .returned (.bool r) ∧ Drawn0 w w' := by
 have H := h; clear h; replace H : (if (Int.tmod a0 4) = 0 then (if (Int.tmod a0 100) = 0 then (some ((Int.tmod a0 400) == 0)) else (some true)) else (some false)) = some r := H
 by_cases c2 : (Int.tmod a0 4) = 0
 ·rw [if_pos c2] at H; have c2b0 : ((Int.tmod a0 4) == 0) = true := beq_iff_eq.mpr c2; have c2b1 : ((Int.tmod a0 4) != 0) = false := bne_eq_false_iff_eq.mpr c2; clear c2
  by_cases c3 : (Int.tmod a0 100) = 0
  ·rw [if_pos c3] at H; have c3b0 : ((Int.tmod a0 100) == 0) = true := beq_iff_eq.mpr c3; have c3b1 : ((Int.tmod a0 100) != 0) = false := bne_eq_false_iff_eq.mpr c3; clear c3
   obtain rfl := Option.some.inj H
   go_enter Tryz.func20, Tryz.ntmps20
   go_wp2
   go_ret
   exact ed_
  ·rw [if_neg c3] at H; have c3b0 : ((Int.tmod a0 100) == 0) = false := beq_eq_false_iff_ne.mpr c3; have c3b1 : ((Int.tmod a0 100) != 0) = true := bne_iff_ne.mpr c3
   obtain rfl := Option.some.inj H
   go_enter Tryz.func20, Tryz.ntmps20
   go_wp2
   go_ret
   exact ed_
 ·rw [if_neg c2] at H; have c2b0 : ((Int.tmod a0 4) == 0) = false := beq_eq_false_iff_ne.mpr c2; have c2b1 : ((Int.tmod a0 4) != 0) = true := bne_iff_ne.mpr c2
  obtain rfl := Option.some.inj H
  go_enter Tryz.func20, Tryz.ntmps20
  go_wp2
  go_ret
  exact ed_
end Go.Proofs.YtfjifhkgifefeaaGreatDoor.PA
end

section
namespace Go.Proofs.YtfjifhkgifefeaaGreatDoor.PA
open Giv Go.RowKit YtfjifhkgifefeaaGreatDoorW.PrintWords YtfjifhkgifefeaaGreatDoorW.PrintLast YtfjifhkgifefeaaGreatDoorW.PrintMore
attribute [local go_sem] max2_int min2_int max_two min_two max_three min_three max_four min_four
set_option linter.unusedVariables false
set_option linter.unusedSimpArgs false
mutual
def civil_Month.j0 : Nat → Int → Int → Bool → Option (Int)
 | 0, _, _, _ => none
 | k + 1, x0, x5, x6 => if x6 = true then (some 31) else (if x5 = 4 then (civil_Month.j1 k x0 x5 (x5 == 4)) else (if x5 = 6 then (civil_Month.j1 k x0 x5 (x5 == 6)) else (if x5 = 9 then (civil_Month.j1 k x0 x5 (x5 == 9)) else (civil_Month.j1 k x0 x5 (x5 == 11)))))
def civil_Month.j1 : Nat → Int → Int → Bool → Option (Int)
 | 0, _, _, _ => none
 | k + 1, x0, x5, x14 => if x14 = true then (some 30) else (if x5 = 2 then ((civil_Leap.f x0).bind fun t112 => (if t112 = true then (some 29) else (some 28))) else (some 0))
end
def civil_Month.f (k : Nat) (a0 : Int) (a1 : Int) : Option (Int) := if a1 = 1 then (civil_Month.j0 k a0 a1 (a1 == 1)) else (if a1 = 3 then (civil_Month.j0 k a0 a1 (a1 == 3)) else (if a1 = 5 then (civil_Month.j0 k a0 a1 (a1 == 5)) else (if a1 = 7 then (civil_Month.j0 k a0 a1 (a1 == 7)) else (if a1 = 8 then (civil_Month.j0 k a0 a1 (a1 == 8)) else (if a1 = 10 then (civil_Month.j0 k a0 a1 (a1 == 10)) else (civil_Month.j0 k a0 a1 (a1 == 12)))))))
theorem civil_Month.calls (k : Nat) (a0 : Int) (a1 : Int) (r : Int) (w : World) (h : civil_Month.f k a0 a1 = some r) :
  Calls Tryz.prog 18 #[.int .i64 a0, .int .i64 a1] w fun e w' => e = .returned (.int .i64 r) ∧ Drawn0 w w' := by
 have H := h; clear h
 unfold civil_Month.f at H
 have HC3 := Aside0.mk H; clear H
 go_enter Tryz.func18, Tryz.ntmps18
 go_upto_if 6 with (fail)
 go_cut [6] (fun v6 wc => ∃ (kq : Nat) (x6_2 : Bool), v6 = .bool x6_2 ∧ Aside0 (civil_Month.j0 kq a0 a1 x6_2 = some r) ∧ Aside0 (kq ≤ k) ∧ Drawn0 w wc)
 case first =>
  have H := HC3.out; clear HC3
  by_cases c4 : a1 = 1
  ·rw [if_pos c4] at H; have c4b0 : (a1 == 1) = true := beq_iff_eq.mpr c4; have c4b1 : (a1 != 1) = false := bne_eq_false_iff_eq.mpr c4; clear c4
   (first | rw [c4b0] | (simp only [i64_w, i32_w]; rw [c4b0]) | skip)
   have H' := Aside0.mk H; clear H
   go_wp2
   go_meet
   case rel => exact ⟨_, ((a1 == 1)), rs_, H', ⟨by first | omega | exact Nat.le_refl _⟩, by repeat (first | exact Drawn0.refl _ | apply Drawn0.step)⟩
  ·rw [if_neg c4] at H; have c4b0 : (a1 == 1) = false := beq_eq_false_iff_ne.mpr c4; have c4b1 : (a1 != 1) = true := bne_iff_ne.mpr c4
   (first | rw [c4b0] | (simp only [i64_w, i32_w]; rw [c4b0]) | skip)
   by_cases c5 : a1 = 3
   ·rw [if_pos c5] at H; have c5b0 : (a1 == 3) = true := beq_iff_eq.mpr c5; have c5b1 : (a1 != 3) = false := bne_eq_false_iff_eq.mpr c5; clear c5; have H' := Aside0.mk H; clear H
    go_wp2
    go_meet
    case rel => exact ⟨_, ((a1 == 3)), rs_, H', ⟨by first | omega | exact Nat.le_refl _⟩, by repeat (first | exact Drawn0.refl _ | apply Drawn0.step)⟩
   ·rw [if_neg c5] at H; have c5b0 : (a1 == 3) = false := beq_eq_false_iff_ne.mpr c5; have c5b1 : (a1 != 3) = true := bne_iff_ne.mpr c5
    by_cases c6 : a1 = 5
    ·rw [if_pos c6] at H; have c6b0 : (a1 == 5) = true := beq_iff_eq.mpr c6; have c6b1 : (a1 != 5) = false := bne_eq_false_iff_eq.mpr c6; clear c6; have H' := Aside0.mk H; clear H
     go_wp2
     go_meet
     case rel => exact ⟨_, ((a1 == 5)), rs_, H', ⟨by first | omega | exact Nat.le_refl _⟩, by repeat (first | exact Drawn0.refl _ | apply Drawn0.step)⟩
    ·rw [if_neg c6] at H; have c6b0 : (a1 == 5) = false := beq_eq_false_iff_ne.mpr c6; have c6b1 : (a1 != 5) = true := bne_iff_ne.mpr c6
     by_cases c7 : a1 = 7
     ·rw [if_pos c7] at H; have c7b0 : (a1 == 7) = true := beq_iff_eq.mpr c7; have c7b1 : (a1 != 7) = false := bne_eq_false_iff_eq.mpr c7; clear c7; have H' := Aside0.mk H; clear H
      go_wp2
      go_meet
      case rel => exact ⟨_, ((a1 == 7)), rs_, H', ⟨by first | omega | exact Nat.le_refl _⟩, by repeat (first | exact Drawn0.refl _ | apply Drawn0.step)⟩
     ·rw [if_neg c7] at H; have c7b0 : (a1 == 7) = false := beq_eq_false_iff_ne.mpr c7; have c7b1 : (a1 != 7) = true := bne_iff_ne.mpr c7
      by_cases c8 : a1 = 8
      ·rw [if_pos c8] at H; have c8b0 : (a1 == 8) = true := beq_iff_eq.mpr c8; have c8b1 : (a1 != 8) = false := bne_eq_false_iff_eq.mpr c8; clear c8; have H' := Aside0.mk H; clear H
       go_wp2
       go_meet
       case rel => exact ⟨_, ((a1 == 8)), rs_, H', ⟨by first | omega | exact Nat.le_refl _⟩, by repeat (first | exact Drawn0.refl _ | apply Drawn0.step)⟩
      ·rw [if_neg c8] at H; have c8b0 : (a1 == 8) = false := beq_eq_false_iff_ne.mpr c8; have c8b1 : (a1 != 8) = true := bne_iff_ne.mpr c8
       by_cases c9 : a1 = 10
       ·rw [if_pos c9] at H; have c9b0 : (a1 == 10) = true := beq_iff_eq.mpr c9; have c9b1 : (a1 != 10) = false := bne_eq_false_iff_eq.mpr c9; clear c9; have H' := Aside0.mk H; clear H
        go_wp2
        go_meet
        case rel => exact ⟨_, ((a1 == 10)), rs_, H', ⟨by first | omega | exact Nat.le_refl _⟩, by repeat (first | exact Drawn0.refl _ | apply Drawn0.step)⟩
       ·rw [if_neg c9] at H; have c9b0 : (a1 == 10) = false := beq_eq_false_iff_ne.mpr c9; have c9b1 : (a1 != 10) = true := bne_iff_ne.mpr c9; have H' := Aside0.mk H; clear H
        go_wp2
        go_meet
        case rel => exact ⟨_, ((a1 == 12)), rs_, H', ⟨by first | omega | exact Nat.le_refl _⟩, by repeat (first | exact Drawn0.refl _ | apply Drawn0.step)⟩
 case rest =>
  clear HC3; (try clear c1); (try clear p2); (try clear c4); (try clear c4b0); (try clear c4b1); (try clear c5); (try clear c5b0); (try clear c5b1); (try clear c6); (try clear c6b0); (try clear c6b1); (try clear c7); (try clear c7b0); (try clear c7b1); (try clear c8); (try clear c8b0); (try clear c8b1); (try clear c9); (try clear c9b0); (try clear c9b1); obtain ⟨kq, x6_2, rfl, HA, HJ2, ⟨mc2, rfl⟩⟩ := hcut
  cases kq with
  | zero => exact absurd HA.out (by simp [civil_Month.j0])
  | succ kj2 =>
   have H := HA.out; clear HA; simp only [civil_Month.j0] at H
   by_cases c10 : x6_2 = true
   ·subst c10
    have H1 : (some 31) = some r := by rw [if_pos rfl] at H; exact H
    clear H; have H := H1; clear H1
    obtain rfl := Option.some.inj H
    go_wp2
    go_ret
    exact ed_
   ·replace c10 := Bool.eq_false_iff.mpr c10; subst c10
    have H1 : (if a1 = 4 then (civil_Month.j1 kj2 a0 a1 (a1 == 4)) else (if a1 = 6 then (civil_Month.j1 kj2 a0 a1 (a1 == 6)) else (if a1 = 9 then (civil_Month.j1 kj2 a0 a1 (a1 == 9)) else (civil_Month.j1 kj2 a0 a1 (a1 == 11))))) = some r := by rw [if_neg (show ¬ (false = true) by decide)] at H; exact H
    clear H; have H := H1; clear H1; have HC11 := Aside0.mk H; clear H
    go_upto_if 14 with (fail)
    go_cut [14] (fun v14 wc => ∃ (kq : Nat) (x14_10 : Bool), v14 = .bool x14_10 ∧ Aside0 (civil_Month.j1 kq a0 a1 x14_10 = some r) ∧ Aside0 (kq ≤ kj2) ∧ Drawn0 w wc)
    case first =>
     have H := HC11.out; clear HC11
     by_cases c12 : a1 = 4
     ·rw [if_pos c12] at H; have c12b0 : (a1 == 4) = true := beq_iff_eq.mpr c12; have c12b1 : (a1 != 4) = false := bne_eq_false_iff_eq.mpr c12; clear c12
      (first | rw [c12b0] | (simp only [i64_w, i32_w]; rw [c12b0]) | skip)
      have H' := Aside0.mk H; clear H
      go_wp2
      go_meet
      case rel => exact ⟨_, ((a1 == 4)), rs_, H', ⟨by have := HJ2.out; first | omega | exact Nat.le_refl _⟩, by repeat (first | exact Drawn0.refl _ | apply Drawn0.step)⟩
     ·rw [if_neg c12] at H; have c12b0 : (a1 == 4) = false := beq_eq_false_iff_ne.mpr c12; have c12b1 : (a1 != 4) = true := bne_iff_ne.mpr c12
      (first | rw [c12b0] | (simp only [i64_w, i32_w]; rw [c12b0]) | skip)
      by_cases c13 : a1 = 6
      ·rw [if_pos c13] at H; have c13b0 : (a1 == 6) = true := beq_iff_eq.mpr c13; have c13b1 : (a1 != 6) = false := bne_eq_false_iff_eq.mpr c13; clear c13; have H' := Aside0.mk H; clear H
       go_wp2
       go_meet
       case rel => exact ⟨_, ((a1 == 6)), rs_, H', ⟨by have := HJ2.out; first | omega | exact Nat.le_refl _⟩, by repeat (first | exact Drawn0.refl _ | apply Drawn0.step)⟩
      ·rw [if_neg c13] at H; have c13b0 : (a1 == 6) = false := beq_eq_false_iff_ne.mpr c13; have c13b1 : (a1 != 6) = true := bne_iff_ne.mpr c13
       by_cases c14 : a1 = 9
       ·rw [if_pos c14] at H; have c14b0 : (a1 == 9) = true := beq_iff_eq.mpr c14; have c14b1 : (a1 != 9) = false := bne_eq_false_iff_eq.mpr c14; clear c14; have H' := Aside0.mk H; clear H
        go_wp2
        go_meet
        case rel => exact ⟨_, ((a1 == 9)), rs_, H', ⟨by have := HJ2.out; first | omega | exact Nat.le_refl _⟩, by repeat (first | exact Drawn0.refl _ | apply Drawn0.step)⟩
       ·rw [if_neg c14] at H; have c14b0 : (a1 == 9) = false := beq_eq_false_iff_ne.mpr c14; have c14b1 : (a1 != 9) = true := bne_iff_ne.mpr c14; have H' := Aside0.mk H; clear H
        go_wp2
        go_meet
        case rel => exact ⟨_, ((a1 == 11)), rs_, H', ⟨by have := HJ2.out; first | omega | exact Nat.le_refl _⟩, by repeat (first | exact Drawn0.refl _ | apply Drawn0.step)⟩
    case rest =>
     clear HC11; (try clear c1); (try clear c2); (try clear p2); (try clear c4); (try clear c4b0); (try clear c4b1); (try clear c5); (try clear c5b0); (try clear c5b1); (try clear c6); (try clear c6b0); (try clear c6b1); (try clear c7); (try clear c7b0); (try clear c7b1); (try clear c8); (try clear c8b0); (try clear c8b1); (try clear c9); (try clear c9b0); (try clear c9b1); (try clear c10); (try clear c12); (try clear c12b0); (try clear c12b1); (try clear c13); (try clear c13b0); (try clear c13b1); (try clear c14); (try clear c14b0); (try clear c14b1); (try clear p2); obtain ⟨kq, x14_10, rfl, HA, HJ10, ⟨mc10, rfl⟩⟩ := hcut
     cases kq with
     | zero => exact absurd HA.out (by simp [civil_Month.j1])
     | succ kj10 =>
      have H := HA.out; clear HA; simp only [civil_Month.j1] at H
      by_cases c15 : x14_10 = true
      ·subst c15
       have H1 : (some 30) = some r := by rw [if_pos rfl] at H; exact H
       clear H; have H := H1; clear H1
       obtain rfl := Option.some.inj H
       go_wp2
       go_ret
       exact ed_
      ·replace c15 := Bool.eq_false_iff.mpr c15; subst c15
       have H1 : (if a1 = 2 then ((civil_Leap.f a0).bind fun t112 => (if t112 = true then (some 29) else (some 28))) else (some 0)) = some r := by rw [if_neg (show ¬ (false = true) by decide)] at H; exact H
       clear H; have H := H1; clear H1
       by_cases c16 : a1 = 2
       ·rw [if_pos c16] at H; have c16b0 : (a1 == 2) = true := beq_iff_eq.mpr c16; have c16b1 : (a1 != 2) = false := bne_eq_false_iff_eq.mpr c16; clear c16; replace H := Option.bind_eq_some_iff.mp H; obtain ⟨t112, A170, H⟩ := H; (try dsimp only at H); have A17 := Aside0.mk A170; clear A170
        by_cases c18 : t112 = true
        ·subst c18
         have H1 : (some 29) = some r := by rw [if_pos rfl] at H; exact H
         clear H; have H := H1; clear H1
         obtain rfl := Option.some.inj H
         go_wp2_with (first | ((with_reducible refine gate_callee (f := 20) rfl ?_); refine gc_ (some 22) Tryz.func20 (civil_Leap.calls a0 true _ A17.out) ?_; rintro e w' ⟨rfl, ⟨nd, rfl⟩⟩; refine ⟨_, rfl, ?_⟩))
         go_ret
         exact ed_
        ·replace c18 := Bool.eq_false_iff.mpr c18; subst c18
         have H1 : (some 28) = some r := by rw [if_neg (show ¬ (false = true) by decide)] at H; exact H
         clear H; have H := H1; clear H1
         obtain rfl := Option.some.inj H
         go_wp2_with (first | ((with_reducible refine gate_callee (f := 20) rfl ?_); refine gc_ (some 22) Tryz.func20 (civil_Leap.calls a0 false _ A17.out) ?_; rintro e w' ⟨rfl, ⟨nd, rfl⟩⟩; refine ⟨_, rfl, ?_⟩))
         go_ret
         exact ed_
       ·rw [if_neg c16] at H; have c16b0 : (a1 == 2) = false := beq_eq_false_iff_ne.mpr c16; have c16b1 : (a1 != 2) = true := bne_iff_ne.mpr c16
        obtain rfl := Option.some.inj H
        go_wp2
        go_ret
        exact ed_
end Go.Proofs.YtfjifhkgifefeaaGreatDoor.PA
end

section
namespace Go.Proofs.YtfjifhkgifefeaaGreatDoor.PA
open Giv Go.RowKit YtfjifhkgifefeaaGreatDoorW.PrintWords YtfjifhkgifefeaaGreatDoorW.PrintLast YtfjifhkgifefeaaGreatDoorW.PrintMore
attribute [local go_sem] max2_int min2_int max_two min_two max_three min_three max_four min_four
set_option linter.unusedVariables false
set_option linter.unusedSimpArgs false
def civil_Check.f (k : Nat) (a0_0 : Int) (a0_1 : Int) (a0_2 : Int) : Option (Option Int) := if a0_0 < 1 then (some (some 1)) else (if a0_0 > 9999 then (some (some 1)) else (if a0_2 < 1 then (some (some 1)) else ((civil_Month.f k a0_0 a0_1).bind fun t114 => (if a0_2 > t114 then (some (some 1)) else (some none)))))
theorem civil_Check.calls (k : Nat) (a0_0 : Int) (a0_1 : Int) (a0_2 : Int) (r : Option Int) (w : World) (h : civil_Check.f k a0_0 a0_1 a0_2 = some r) :
  Calls Tryz.prog 22 #[.agg #[.int .i64 a0_0, .int .i64 a0_1, .int .i64 a0_2]] w fun e w' => e = .returned (errW r) ∧ Below w.heap.size w w' := by
 have hu26 := Tryz.underlying26; have hu28 := Tryz.underlying28; have hu157 := Tryz.underlying157; have HB := Aside0.mk (Below.refl w.heap.size w); have H := h; clear h
 unfold civil_Check.f at H
 by_cases c2 : a0_0 < 1
 ·rw [if_pos c2] at H; have c2b0 : decide (a0_0 < 1) = true := decide_eq_true c2; clear c2
  obtain rfl := Option.some.inj H
  go_enter Tryz.func22, Tryz.ntmps22
  go_wp2_with (first | ((with_reducible refine gate_dst (N := 1) rfl ?_); refine be_ (N := 1) (cs := #[.int .i64 a0_0, .int .i64 a0_1, .int .i64 a0_2]) (t := 26) ?_; intro gb113 hg w3 hbox hb; have BK113 := Aside0.mk hbox; have GW113 := Aside0.mk (sz_ hg : w.heap.size ≤ gb113); have GE113 := GW113; replace HB := bs_ hb; clear hb hbox hg; have hcz4_0 : w3.cell? ⟨gb113, 0, none⟩ = some (.int .i64 a0_0) := (blk_cell BK113.out 0).trans rfl; have hcz4_1 : w3.cell? ⟨gb113, 1, none⟩ = some (.int .i64 a0_1) := (blk_cell BK113.out 1).trans rfl; have hcz4_2 : w3.cell? ⟨gb113, 2, none⟩ = some (.int .i64 a0_2) := (blk_cell BK113.out 2).trans rfl; have hfz4_0 := blk_frozen BK113.out 0; have hfz4_1 := blk_frozen BK113.out 1; have hfz4_2 := blk_frozen BK113.out 2))
  repeat (go_quiet (fail); try go_wp2_with (first | ((with_reducible refine gate_dst (N := 1) rfl ?_); refine be_ (N := 1) (cs := #[.int .i64 a0_0, .int .i64 a0_1, .int .i64 a0_2]) (t := 26) ?_; intro gb113 hg w3 hbox hb; have BK113 := Aside0.mk hbox; have GW113 := Aside0.mk (sz_ hg : w.heap.size ≤ gb113); have GE113 := GW113; replace HB := bs_ hb; clear hb hbox hg; have hcz4_0 : w3.cell? ⟨gb113, 0, none⟩ = some (.int .i64 a0_0) := (blk_cell BK113.out 0).trans rfl; have hcz4_1 : w3.cell? ⟨gb113, 1, none⟩ = some (.int .i64 a0_1) := (blk_cell BK113.out 1).trans rfl; have hcz4_2 : w3.cell? ⟨gb113, 2, none⟩ = some (.int .i64 a0_2) := (blk_cell BK113.out 2).trans rfl; have hfz4_0 := blk_frozen BK113.out 0; have hfz4_1 := blk_frozen BK113.out 1; have hfz4_2 := blk_frozen BK113.out 2)))
  go_ret
  exact en_
 ·rw [if_neg c2] at H; have c2b0 : decide (a0_0 < 1) = false := decide_eq_false c2; clear c2
  by_cases c5 : a0_0 > 9999
  ·rw [if_pos c5] at H; have c5b0 : decide (9999 < a0_0) = true := decide_eq_true c5; clear c5
   obtain rfl := Option.some.inj H
   go_enter Tryz.func22, Tryz.ntmps22
   go_wp2_with (first | ((with_reducible refine gate_dst (N := 1) rfl ?_); refine be_ (N := 1) (cs := #[.int .i64 a0_0, .int .i64 a0_1, .int .i64 a0_2]) (t := 26) ?_; intro gb113 hg w6 hbox hb; have BK113 := Aside0.mk hbox; have GW113 := Aside0.mk (sz_ hg : w.heap.size ≤ gb113); have GE113 := GW113; replace HB := bs_ hb; clear hb hbox hg; have hcz7_0 : w6.cell? ⟨gb113, 0, none⟩ = some (.int .i64 a0_0) := (blk_cell BK113.out 0).trans rfl; have hcz7_1 : w6.cell? ⟨gb113, 1, none⟩ = some (.int .i64 a0_1) := (blk_cell BK113.out 1).trans rfl; have hcz7_2 : w6.cell? ⟨gb113, 2, none⟩ = some (.int .i64 a0_2) := (blk_cell BK113.out 2).trans rfl; have hfz7_0 := blk_frozen BK113.out 0; have hfz7_1 := blk_frozen BK113.out 1; have hfz7_2 := blk_frozen BK113.out 2))
   repeat (go_quiet (fail); try go_wp2_with (first | ((with_reducible refine gate_dst (N := 1) rfl ?_); refine be_ (N := 1) (cs := #[.int .i64 a0_0, .int .i64 a0_1, .int .i64 a0_2]) (t := 26) ?_; intro gb113 hg w6 hbox hb; have BK113 := Aside0.mk hbox; have GW113 := Aside0.mk (sz_ hg : w.heap.size ≤ gb113); have GE113 := GW113; replace HB := bs_ hb; clear hb hbox hg; have hcz7_0 : w6.cell? ⟨gb113, 0, none⟩ = some (.int .i64 a0_0) := (blk_cell BK113.out 0).trans rfl; have hcz7_1 : w6.cell? ⟨gb113, 1, none⟩ = some (.int .i64 a0_1) := (blk_cell BK113.out 1).trans rfl; have hcz7_2 : w6.cell? ⟨gb113, 2, none⟩ = some (.int .i64 a0_2) := (blk_cell BK113.out 2).trans rfl; have hfz7_0 := blk_frozen BK113.out 0; have hfz7_1 := blk_frozen BK113.out 1; have hfz7_2 := blk_frozen BK113.out 2)))
   go_ret
   exact en_
  ·rw [if_neg c5] at H; have c5b0 : decide (9999 < a0_0) = false := decide_eq_false c5; clear c5
   by_cases c8 : a0_2 < 1
   ·rw [if_pos c8] at H; have c8b0 : decide (a0_2 < 1) = true := decide_eq_true c8; clear c8
    obtain rfl := Option.some.inj H
    go_enter Tryz.func22, Tryz.ntmps22
    go_wp2_with (first | ((with_reducible refine gate_dst (N := 1) rfl ?_); refine be_ (N := 1) (cs := #[.int .i64 a0_0, .int .i64 a0_1, .int .i64 a0_2]) (t := 26) ?_; intro gb113 hg w9 hbox hb; have BK113 := Aside0.mk hbox; have GW113 := Aside0.mk (sz_ hg : w.heap.size ≤ gb113); have GE113 := GW113; replace HB := bs_ hb; clear hb hbox hg; have hcz10_0 : w9.cell? ⟨gb113, 0, none⟩ = some (.int .i64 a0_0) := (blk_cell BK113.out 0).trans rfl; have hcz10_1 : w9.cell? ⟨gb113, 1, none⟩ = some (.int .i64 a0_1) := (blk_cell BK113.out 1).trans rfl; have hcz10_2 : w9.cell? ⟨gb113, 2, none⟩ = some (.int .i64 a0_2) := (blk_cell BK113.out 2).trans rfl; have hfz10_0 := blk_frozen BK113.out 0; have hfz10_1 := blk_frozen BK113.out 1; have hfz10_2 := blk_frozen BK113.out 2))
    repeat (go_quiet (fail); try go_wp2_with (first | ((with_reducible refine gate_dst (N := 1) rfl ?_); refine be_ (N := 1) (cs := #[.int .i64 a0_0, .int .i64 a0_1, .int .i64 a0_2]) (t := 26) ?_; intro gb113 hg w9 hbox hb; have BK113 := Aside0.mk hbox; have GW113 := Aside0.mk (sz_ hg : w.heap.size ≤ gb113); have GE113 := GW113; replace HB := bs_ hb; clear hb hbox hg; have hcz10_0 : w9.cell? ⟨gb113, 0, none⟩ = some (.int .i64 a0_0) := (blk_cell BK113.out 0).trans rfl; have hcz10_1 : w9.cell? ⟨gb113, 1, none⟩ = some (.int .i64 a0_1) := (blk_cell BK113.out 1).trans rfl; have hcz10_2 : w9.cell? ⟨gb113, 2, none⟩ = some (.int .i64 a0_2) := (blk_cell BK113.out 2).trans rfl; have hfz10_0 := blk_frozen BK113.out 0; have hfz10_1 := blk_frozen BK113.out 1; have hfz10_2 := blk_frozen BK113.out 2)))
    go_ret
    exact en_
   ·rw [if_neg c8] at H; have c8b0 : decide (a0_2 < 1) = false := decide_eq_false c8; clear c8; replace H := Option.bind_eq_some_iff.mp H; obtain ⟨t114, A110, H⟩ := H; (try dsimp only at H); have A11 := Aside0.mk A110; clear A110
    by_cases c12 : a0_2 > t114
    ·rw [if_pos c12] at H; have c12b0 : decide (t114 < a0_2) = true := decide_eq_true c12; clear c12
     obtain rfl := Option.some.inj H
     go_enter Tryz.func22, Tryz.ntmps22
     go_wp2_with (first | ((with_reducible refine gate_dst (N := 1) rfl ?_); refine be_ (N := 1) (cs := #[.int .i64 a0_0, .int .i64 a0_1, .int .i64 a0_2]) (t := 26) ?_; intro gb113 hg w13 hbox hb; have BK113 := Aside0.mk hbox; have GW113 := Aside0.mk (sz_ hg : w.heap.size ≤ gb113); have GE113 := GW113; replace HB := bs_ hb; clear hb hbox hg; have hcz14_0 : w13.cell? ⟨gb113, 0, none⟩ = some (.int .i64 a0_0) := (blk_cell BK113.out 0).trans rfl; have hcz14_1 : w13.cell? ⟨gb113, 1, none⟩ = some (.int .i64 a0_1) := (blk_cell BK113.out 1).trans rfl; have hcz14_2 : w13.cell? ⟨gb113, 2, none⟩ = some (.int .i64 a0_2) := (blk_cell BK113.out 2).trans rfl; have hfz14_0 := blk_frozen BK113.out 0; have hfz14_1 := blk_frozen BK113.out 1; have hfz14_2 := blk_frozen BK113.out 2) | (go_at_call 18; (with_reducible refine (civil_Month.calls k a0_0 a0_1 t114 _ A11.out).mono ?_); rintro e w' ⟨rfl, ⟨nd, rfl⟩⟩; (try exact dn_)))
     repeat (go_quiet (first | (go_at_call 18; (with_reducible refine (civil_Month.calls k a0_0 a0_1 t114 _ A11.out).mono ?_); rintro e w' ⟨rfl, ⟨nd, rfl⟩⟩; (try exact dn_))); try go_wp2_with (first | ((with_reducible refine gate_dst (N := 1) rfl ?_); refine be_ (N := 1) (cs := #[.int .i64 a0_0, .int .i64 a0_1, .int .i64 a0_2]) (t := 26) ?_; intro gb113 hg w13 hbox hb; have BK113 := Aside0.mk hbox; have GW113 := Aside0.mk (sz_ hg : w.heap.size ≤ gb113); have GE113 := GW113; replace HB := bs_ hb; clear hb hbox hg; have hcz14_0 : w13.cell? ⟨gb113, 0, none⟩ = some (.int .i64 a0_0) := (blk_cell BK113.out 0).trans rfl; have hcz14_1 : w13.cell? ⟨gb113, 1, none⟩ = some (.int .i64 a0_1) := (blk_cell BK113.out 1).trans rfl; have hcz14_2 : w13.cell? ⟨gb113, 2, none⟩ = some (.int .i64 a0_2) := (blk_cell BK113.out 2).trans rfl; have hfz14_0 := blk_frozen BK113.out 0; have hfz14_1 := blk_frozen BK113.out 1; have hfz14_2 := blk_frozen BK113.out 2) | (go_at_call 18; (with_reducible refine (civil_Month.calls k a0_0 a0_1 t114 _ A11.out).mono ?_); rintro e w' ⟨rfl, ⟨nd, rfl⟩⟩; (try exact dn_))))
     go_ret
     exact en_
    ·rw [if_neg c12] at H; have c12b0 : decide (t114 < a0_2) = false := decide_eq_false c12; clear c12
     obtain rfl := Option.some.inj H
     go_enter Tryz.func22, Tryz.ntmps22
     go_wp2_with (first | ((with_reducible refine gate_dst (N := 1) rfl ?_); refine be_ (N := 1) (cs := #[.int .i64 a0_0, .int .i64 a0_1, .int .i64 a0_2]) (t := 26) ?_; intro gb113 hg w15 hbox hb; have BK113 := Aside0.mk hbox; have GW113 := Aside0.mk (sz_ hg : w.heap.size ≤ gb113); have GE113 := GW113; replace HB := bs_ hb; clear hb hbox hg; have hcz16_0 : w15.cell? ⟨gb113, 0, none⟩ = some (.int .i64 a0_0) := (blk_cell BK113.out 0).trans rfl; have hcz16_1 : w15.cell? ⟨gb113, 1, none⟩ = some (.int .i64 a0_1) := (blk_cell BK113.out 1).trans rfl; have hcz16_2 : w15.cell? ⟨gb113, 2, none⟩ = some (.int .i64 a0_2) := (blk_cell BK113.out 2).trans rfl; have hfz16_0 := blk_frozen BK113.out 0; have hfz16_1 := blk_frozen BK113.out 1; have hfz16_2 := blk_frozen BK113.out 2) | (go_at_call 18; (with_reducible refine (civil_Month.calls k a0_0 a0_1 t114 _ A11.out).mono ?_); rintro e w' ⟨rfl, ⟨nd, rfl⟩⟩; (try exact dn_)))
     repeat (go_quiet (first | (go_at_call 18; (with_reducible refine (civil_Month.calls k a0_0 a0_1 t114 _ A11.out).mono ?_); rintro e w' ⟨rfl, ⟨nd, rfl⟩⟩; (try exact dn_))); try go_wp2_with (first | ((with_reducible refine gate_dst (N := 1) rfl ?_); refine be_ (N := 1) (cs := #[.int .i64 a0_0, .int .i64 a0_1, .int .i64 a0_2]) (t := 26) ?_; intro gb113 hg w15 hbox hb; have BK113 := Aside0.mk hbox; have GW113 := Aside0.mk (sz_ hg : w.heap.size ≤ gb113); have GE113 := GW113; replace HB := bs_ hb; clear hb hbox hg; have hcz16_0 : w15.cell? ⟨gb113, 0, none⟩ = some (.int .i64 a0_0) := (blk_cell BK113.out 0).trans rfl; have hcz16_1 : w15.cell? ⟨gb113, 1, none⟩ = some (.int .i64 a0_1) := (blk_cell BK113.out 1).trans rfl; have hcz16_2 : w15.cell? ⟨gb113, 2, none⟩ = some (.int .i64 a0_2) := (blk_cell BK113.out 2).trans rfl; have hfz16_0 := blk_frozen BK113.out 0; have hfz16_1 := blk_frozen BK113.out 1; have hfz16_2 := blk_frozen BK113.out 2) | (go_at_call 18; (with_reducible refine (civil_Month.calls k a0_0 a0_1 t114 _ A11.out).mono ?_); rintro e w' ⟨rfl, ⟨nd, rfl⟩⟩; (try exact dn_))))
     go_ret
     exact en_
end Go.Proofs.YtfjifhkgifefeaaGreatDoor.PA
end

section
namespace Go.Proofs.YtfjifhkgifefeaaGreatDoor.PA
open Giv Go.RowKit YtfjifhkgifefeaaGreatDoorW.PrintWords YtfjifhkgifefeaaGreatDoorW.PrintLast YtfjifhkgifefeaaGreatDoorW.PrintMore
attribute [local go_sem] max2_int min2_int max_two min_two max_three min_three max_four min_four
set_option linter.unusedVariables false
set_option linter.unusedSimpArgs false
def num_Add.f (a0 : Int) (a1 : Int) : Option (Int × Option Int) := if ((decide ((wrap64 (a0 + a1)) < a0)) != (decide (a1 < 0))) = true then (some (0, some 2)) else (some (wrap64 (a0 + a1), none))
theorem num_Add.calls (a0 : Int) (a1 : Int) (r1 : Int) (r2 : Option Int) (w : World) (h : num_Add.f a0 a1 = some (r1, r2)) :
  Calls Tryz.prog 92 #[.int .i64 a0, .int .i64 a1] w fun e w' => e = .returned (.tuple #[.int .i64 r1, errW r2]) ∧ Drawn0 w w' := by
 have hu28 := Tryz.underlying28; have hu157 := Tryz.underlying157; have H := h; clear h; replace H : (if ((decide ((wrap64 (a0 + a1)) < a0)) != (decide (a1 < 0))) = true then (some (0, some 2)) else (some (wrap64 (a0 + a1), none))) = some (r1, r2) := H
 by_cases c3 : ((decide ((wrap64 (a0 + a1)) < a0)) != (decide (a1 < 0))) = true
 ·rw [if_pos c3] at H; have c3b0 : ((decide ((wrap64 (a0 + a1)) < a0)) != (decide (a1 < 0))) = true := c3
  (try (have c3b1 : decide ((decide ((wrap64 (a0 + a1)) < a0)) = (decide (a1 < 0))) = false := by simpa using c3))
  (try (have c3b2 : ((decide ((wrap64 (a0 + a1)) < a0)) == (decide (a1 < 0))) = false := by simpa using c3))
  (try (have c3b3 : ¬ ((decide ((wrap64 (a0 + a1)) < a0)) = (decide (a1 < 0))) := by simpa using c3))
  clear c3; simp only [Option.some.injEq, Prod.mk.injEq] at H; obtain ⟨rfl, rfl⟩ := H
  go_enter Tryz.func92, Tryz.ntmps92
  go_wp2
  go_ret2
  exact ed_
 ·rw [if_neg c3] at H
  have c3b0 : ((decide ((wrap64 (a0 + a1)) < a0)) != (decide (a1 < 0))) = false := by simpa using c3
  (try (have c3b1 : decide ((decide ((wrap64 (a0 + a1)) < a0)) = (decide (a1 < 0))) = true := by simpa using c3))
  (try (have c3b2 : ((decide ((wrap64 (a0 + a1)) < a0)) == (decide (a1 < 0))) = true := by simpa using c3))
  clear c3; simp only [Option.some.injEq, Prod.mk.injEq] at H; obtain ⟨rfl, rfl⟩ := H
  go_enter Tryz.func92, Tryz.ntmps92
  go_wp2
  go_ret2
  exact ed_
end Go.Proofs.YtfjifhkgifefeaaGreatDoor.PA
end

section
namespace Go.Proofs.YtfjifhkgifefeaaGreatDoor.PA
open Giv Go.RowKit YtfjifhkgifefeaaGreatDoorW.PrintWords YtfjifhkgifefeaaGreatDoorW.PrintLast YtfjifhkgifefeaaGreatDoorW.PrintMore
attribute [local go_sem] max2_int min2_int max_two min_two max_three min_three max_four min_four
set_option linter.unusedVariables false
set_option linter.unusedSimpArgs false
def num_Div.f (a0 : Int) (a1 : Int) : Option (Int × Int × Option Int) := if a1 < 1 then (some (0, 0, some 1)) else (if a1 = 0 then (none) else (if (Int.tmod a0 a1) < 0 then (some (wrap64 ((wrap64 (Int.tdiv a0 a1)) - 1), wrap64 ((Int.tmod a0 a1) + a1), none)) else (some (wrap64 (Int.tdiv a0 a1), Int.tmod a0 a1, none))))
theorem num_Div.calls (a0 : Int) (a1 : Int) (r1 : Int) (r2 : Int) (r3 : Option Int) (w : World) (h : num_Div.f a0 a1 = some (r1, r2, r3)) :
  Calls Tryz.prog 91 #[.int .i64 a0, .int .i64 a1] w fun e w' => e = .returned (.tuple #[.int .i64 r1, .int .i64 r2, errW r3]) ∧ Drawn0 w w' := by
 have hu28 := Tryz.underlying28; have hu157 := Tryz.underlying157; have H := h; clear h
 unfold num_Div.f at H
 by_cases c3 : a1 < 1
 ·rw [if_pos c3] at H; have c3b0 : decide (a1 < 1) = true := decide_eq_true c3; clear c3; simp only [Option.some.injEq, Prod.mk.injEq] at H; obtain ⟨rfl, rfl, rfl⟩ := H
  go_enter Tryz.func91, Tryz.ntmps91
  go_wp2
  repeat (go_quiet (fail); try go_wp2)
  go_ret3
  exact ed_
 ·rw [if_neg c3] at H; have c3b0 : decide (a1 < 1) = false := decide_eq_false c3; clear c3
  by_cases c4 : a1 = 0
  ·rw [if_pos c4] at H; exact absurd H (by simp)
  ·rw [if_neg c4] at H; have c4b0 : (a1 == 0) = false := beq_eq_false_iff_ne.mpr c4; have c4b1 : (a1 != 0) = true := bne_iff_ne.mpr c4
   by_cases c5 : (Int.tmod a0 a1) < 0
   ·rw [if_pos c5] at H; have c5b0 : decide ((Int.tmod a0 a1) < 0) = true := decide_eq_true c5; clear c5; simp only [Option.some.injEq, Prod.mk.injEq] at H; obtain ⟨rfl, rfl, rfl⟩ := H
    go_enter Tryz.func91, Tryz.ntmps91
    go_wp2
    repeat (go_quiet (fail); try go_wp2)
    go_ret3
    exact ed_
   ·rw [if_neg c5] at H; have c5b0 : decide ((Int.tmod a0 a1) < 0) = false := decide_eq_false c5; clear c5; simp only [Option.some.injEq, Prod.mk.injEq] at H; obtain ⟨rfl, rfl, rfl⟩ := H
    go_enter Tryz.func91, Tryz.ntmps91
    go_wp2
    repeat (go_quiet (fail); try go_wp2)
    go_ret3
    exact ed_
end Go.Proofs.YtfjifhkgifefeaaGreatDoor.PA
end

section
namespace Go.Proofs.YtfjifhkgifefeaaGreatDoor.PA
open Giv Go.RowKit YtfjifhkgifefeaaGreatDoorW.PrintWords YtfjifhkgifefeaaGreatDoorW.PrintLast YtfjifhkgifefeaaGreatDoorW.PrintMore
attribute [local go_sem] max2_int min2_int max_two min_two max_three min_three max_four min_four
set_option linter.unusedVariables false
set_option linter.unusedSimpArgs false
def civil_Of.j0 : Nat → Int → Int → Bool → Option (Int × Int × Int × Option Int)
 | 0, _, _, _ => none
 | k + 1, x6, x7, x31 => if x31 = true then (some (0, 0, 0, some 2)) else ((civil_Check.f k (wrap64 ((wrap64 ((wrap64 (400 * x6)) + (wrap64 (Int.tdiv (wrap64 ((wrap64 ((wrap64 (x7 - (wrap64 (Int.tdiv x7 1460)))) + (wrap64 (Int.tdiv x7 36524)))) - (wrap64 (Int.tdiv x7 146096)))) 365)))) + (wrap64 (Int.tdiv (wrap64 (Int.tdiv (wrap64 ((wrap64 (5 * (wrap64 (x7 - (wrap64 ((wrap64 ((wrap64 (365 * (wrap64 (Int.tdiv (wrap64 ((wrap64 ((wrap64 (x7 - (wrap64 (Int.tdiv x7 1460)))) + (wrap64 (Int.tdiv x7 36524)))) - (wrap64 (Int.tdiv x7 146096)))) 365)))) + (wrap64 (Int.tdiv (wrap64 (Int.tdiv (wrap64 ((wrap64 ((wrap64 (x7 - (wrap64 (Int.tdiv x7 1460)))) + (wrap64 (Int.tdiv x7 36524)))) - (wrap64 (Int.tdiv x7 146096)))) 365)) 4)))) - (wrap64 (Int.tdiv (wrap64 (Int.tdiv (wrap64 ((wrap64 ((wrap64 (x7 - (wrap64 (Int.tdiv x7 1460)))) + (wrap64 (Int.tdiv x7 36524)))) - (wrap64 (Int.tdiv x7 146096)))) 365)) 100)))))))) + 2)) 153)) 10)))) (wrap64 ((Int.tmod (wrap64 ((wrap64 (Int.tdiv (wrap64 ((wrap64 (5 * (wrap64 (x7 - (wrap64 ((wrap64 ((wrap64 (365 * (wrap64 (Int.tdiv (wrap64 ((wrap64 ((wrap64 (x7 - (wrap64 (Int.tdiv x7 1460)))) + (wrap64 (Int.tdiv x7 36524)))) - (wrap64 (Int.tdiv x7 146096)))) 365)))) + (wrap64 (Int.tdiv (wrap64 (Int.tdiv (wrap64 ((wrap64 ((wrap64 (x7 - (wrap64 (Int.tdiv x7 1460)))) + (wrap64 (Int.tdiv x7 36524)))) - (wrap64 (Int.tdiv x7 146096)))) 365)) 4)))) - (wrap64 (Int.tdiv (wrap64 (Int.tdiv (wrap64 ((wrap64 ((wrap64 (x7 - (wrap64 (Int.tdiv x7 1460)))) + (wrap64 (Int.tdiv x7 36524)))) - (wrap64 (Int.tdiv x7 146096)))) 365)) 100)))))))) + 2)) 153)) + 2)) 12) + 1)) (wrap64 ((wrap64 ((wrap64 (x7 - (wrap64 ((wrap64 ((wrap64 (365 * (wrap64 (Int.tdiv (wrap64 ((wrap64 ((wrap64 (x7 - (wrap64 (Int.tdiv x7 1460)))) + (wrap64 (Int.tdiv x7 36524)))) - (wrap64 (Int.tdiv x7 146096)))) 365)))) + (wrap64 (Int.tdiv (wrap64 (Int.tdiv (wrap64 ((wrap64 ((wrap64 (x7 - (wrap64 (Int.tdiv x7 1460)))) + (wrap64 (Int.tdiv x7 36524)))) - (wrap64 (Int.tdiv x7 146096)))) 365)) 4)))) - (wrap64 (Int.tdiv (wrap64 (Int.tdiv (wrap64 ((wrap64 ((wrap64 (x7 - (wrap64 (Int.tdiv x7 1460)))) + (wrap64 (Int.tdiv x7 36524)))) - (wrap64 (Int.tdiv x7 146096)))) 365)) 100)))))) - (wrap64 (Int.tdiv (wrap64 ((wrap64 (153 * (wrap64 (Int.tdiv (wrap64 ((wrap64 (5 * (wrap64 (x7 - (wrap64 ((wrap64 ((wrap64 (365 * (wrap64 (Int.tdiv (wrap64 ((wrap64 ((wrap64 (x7 - (wrap64 (Int.tdiv x7 1460)))) + (wrap64 (Int.tdiv x7 36524)))) - (wrap64 (Int.tdiv x7 146096)))) 365)))) + (wrap64 (Int.tdiv (wrap64 (Int.tdiv (wrap64 ((wrap64 ((wrap64 (x7 - (wrap64 (Int.tdiv x7 1460)))) + (wrap64 (Int.tdiv x7 36524)))) - (wrap64 (Int.tdiv x7 146096)))) 365)) 4)))) - (wrap64 (Int.tdiv (wrap64 (Int.tdiv (wrap64 ((wrap64 ((wrap64 (x7 - (wrap64 (Int.tdiv x7 1460)))) + (wrap64 (Int.tdiv x7 36524)))) - (wrap64 (Int.tdiv x7 146096)))) 365)) 100)))))))) + 2)) 153)))) + 2)) 5)))) + 1))).bind fun t135 => (if t135.isNone = true then (some (wrap64 ((wrap64 ((wrap64 (400 * x6)) + (wrap64 (Int.tdiv (wrap64 ((wrap64 ((wrap64 (x7 - (wrap64 (Int.tdiv x7 1460)))) + (wrap64 (Int.tdiv x7 36524)))) - (wrap64 (Int.tdiv x7 146096)))) 365)))) + (wrap64 (Int.tdiv (wrap64 (Int.tdiv (wrap64 ((wrap64 (5 * (wrap64 (x7 - (wrap64 ((wrap64 ((wrap64 (365 * (wrap64 (Int.tdiv (wrap64 ((wrap64 ((wrap64 (x7 - (wrap64 (Int.tdiv x7 1460)))) + (wrap64 (Int.tdiv x7 36524)))) - (wrap64 (Int.tdiv x7 146096)))) 365)))) + (wrap64 (Int.tdiv (wrap64 (Int.tdiv (wrap64 ((wrap64 ((wrap64 (x7 - (wrap64 (Int.tdiv x7 1460)))) + (wrap64 (Int.tdiv x7 36524)))) - (wrap64 (Int.tdiv x7 146096)))) 365)) 4)))) - (wrap64 (Int.tdiv (wrap64 (Int.tdiv (wrap64 ((wrap64 ((wrap64 (x7 - (wrap64 (Int.tdiv x7 1460)))) + (wrap64 (Int.tdiv x7 36524)))) - (wrap64 (Int.tdiv x7 146096)))) 365)) 100)))))))) + 2)) 153)) 10))), wrap64 ((Int.tmod (wrap64 ((wrap64 (Int.tdiv (wrap64 ((wrap64 (5 * (wrap64 (x7 - (wrap64 ((wrap64 ((wrap64 (365 * (wrap64 (Int.tdiv (wrap64 ((wrap64 ((wrap64 (x7 - (wrap64 (Int.tdiv x7 1460)))) + (wrap64 (Int.tdiv x7 36524)))) - (wrap64 (Int.tdiv x7 146096)))) 365)))) + (wrap64 (Int.tdiv (wrap64 (Int.tdiv (wrap64 ((wrap64 ((wrap64 (x7 - (wrap64 (Int.tdiv x7 1460)))) + (wrap64 (Int.tdiv x7 36524)))) - (wrap64 (Int.tdiv x7 146096)))) 365)) 4)))) - (wrap64 (Int.tdiv (wrap64 (Int.tdiv (wrap64 ((wrap64 ((wrap64 (x7 - (wrap64 (Int.tdiv x7 1460)))) + (wrap64 (Int.tdiv x7 36524)))) - (wrap64 (Int.tdiv x7 146096)))) 365)) 100)))))))) + 2)) 153)) + 2)) 12) + 1), wrap64 ((wrap64 ((wrap64 (x7 - (wrap64 ((wrap64 ((wrap64 (365 * (wrap64 (Int.tdiv (wrap64 ((wrap64 ((wrap64 (x7 - (wrap64 (Int.tdiv x7 1460)))) + (wrap64 (Int.tdiv x7 36524)))) - (wrap64 (Int.tdiv x7 146096)))) 365)))) + (wrap64 (Int.tdiv (wrap64 (Int.tdiv (wrap64 ((wrap64 ((wrap64 (x7 - (wrap64 (Int.tdiv x7 1460)))) + (wrap64 (Int.tdiv x7 36524)))) - (wrap64 (Int.tdiv x7 146096)))) 365)) 4)))) - (wrap64 (Int.tdiv (wrap64 (Int.tdiv (wrap64 ((wrap64 ((wrap64 (x7 - (wrap64 (Int.tdiv x7 1460)))) + (wrap64 (Int.tdiv x7 36524)))) - (wrap64 (Int.tdiv x7 146096)))) 365)) 100)))))) - (wrap64 (Int.tdiv (wrap64 ((wrap64 (153 * (wrap64 (Int.tdiv (wrap64 ((wrap64 (5 * (wrap64 (x7 - (wrap64 ((wrap64 ((wrap64 (365 * (wrap64 (Int.tdiv (wrap64 ((wrap64 ((wrap64 (x7 - (wrap64 (Int.tdiv x7 1460)))) + (wrap64 (Int.tdiv x7 36524)))) - (wrap64 (Int.tdiv x7 146096)))) 365)))) + (wrap64 (Int.tdiv (wrap64 (Int.tdiv (wrap64 ((wrap64 ((wrap64 (x7 - (wrap64 (Int.tdiv x7 1460)))) + (wrap64 (Int.tdiv x7 36524)))) - (wrap64 (Int.tdiv x7 146096)))) 365)) 4)))) - (wrap64 (Int.tdiv (wrap64 (Int.tdiv (wrap64 ((wrap64 ((wrap64 (x7 - (wrap64 (Int.tdiv x7 1460)))) + (wrap64 (Int.tdiv x7 36524)))) - (wrap64 (Int.tdiv x7 146096)))) 365)) 100)))))))) + 2)) 153)))) + 2)) 5)))) + 1), none)) else (some (0, 0, 0, some 2))))
def civil_Of.f (k : Nat) (a0 : Int) : Option (Int × Int × Int × Option Int) := (num_Add.f a0 719468).bind fun bt127 => (if bt127.2.isNone = true then ((num_Div.f bt127.1 146097).bind fun bt130 => (if bt130.2.2.isNone = true then (civil_Of.j0 k bt130.1 bt130.2.1 (decide (bt130.1 > 9999))) else (civil_Of.j0 k bt130.1 bt130.2.1 true))) else (some (0, 0, 0, some 2)))
theorem civil_Of.calls (k : Nat) (a0 : Int) (r1 : Int) (r2 : Int) (r3 : Int) (r4 : Option Int) (w : World) (h : civil_Of.f k a0 = some (r1, r2, r3, r4)) :
  Calls Tryz.prog 17 #[.int .i64 a0] w fun e w' => e = .returned (.tuple #[.agg #[.int .i64 r1, .int .i64 r2, .int .i64 r3], errW r4]) ∧ Below w.heap.size w w' := by
 have hu26 := Tryz.underlying26; have hu28 := Tryz.underlying28; have hu157 := Tryz.underlying157; have HB := Aside0.mk (Below.refl w.heap.size w); have H := h; clear h
 unfold civil_Of.f at H
 replace H := Option.bind_eq_some_iff.mp H; obtain ⟨⟨t127, t128⟩, A20, H⟩ := H; (try dsimp only at H); have A2 := Aside0.mk A20; clear A20
 rcases t128 with _ | q129
 ·rw [if_pos (show (none : Option Int).isNone = true by rfl)] at H
  try dsimp only [Option.getD_some] at H
  try simp only [errW_none, errW_some]
  replace H := Option.bind_eq_some_iff.mp H; obtain ⟨⟨t130, t131, t132⟩, A30, H⟩ := H; (try dsimp only at H); have A3 := Aside0.mk A30; clear A30; have HC4 := Aside0.mk H; clear H
  go_enter Tryz.func17, Tryz.ntmps17
  go_upto_region 5 with (first | ((with_reducible refine gate_dst (N := 2) rfl ?_); refine be_ (N := 2) (cs := #[.int .i64 0, .int .i64 0, .int .i64 0]) (t := 26) ?_; intro gb126 hg w5 hbox hb; have BK126 := Aside0.mk hbox; have GW126 := Aside0.mk (sz_ hg : w.heap.size ≤ gb126); have GE126 := GW126; replace HB := bs_ hb; clear hb hbox hg) | ((with_reducible refine gate_callee (f := 92) rfl ?_); refine gc_ (some 13) Tryz.func92 (num_Add.calls a0 719468 t127 none _ A2.out) ?_; rintro e w' ⟨rfl, ⟨nd, rfl⟩⟩; refine ⟨_, rfl, ?_⟩; (try simp only [errW_none, errW_some])) | ((with_reducible refine gate_callee (f := 91) rfl ?_); refine gc_ (some 22) Tryz.func91 (num_Div.calls t127 146097 t130 t131 t132 _ A3.out) ?_; rintro e w' ⟨rfl, ⟨nd, rfl⟩⟩; refine ⟨_, rfl, ?_⟩; (try simp only [errW_none, errW_some])))
  (try simp only [Act.put, List.setIfInBounds_toArray, List.set_cons_zero, List.set_cons_succ])
  go_cut [31] (fun v31 wc => ∃ (kq : Nat) (x31_3 : Bool), v31 = .bool x31_3 ∧ Aside0 (civil_Of.j0 kq t130 t131 x31_3 = some (r1, r2, r3, r4)) ∧ Aside0 (kq ≤ k) ∧ Aside0 (wc.heap[gb126]? = some (.cells #[.int .i64 0, .int .i64 0, .int .i64 0] 26 (0, 0))) ∧ Aside0 (Below w.heap.size w wc))
  case first =>
   have H := HC4.out; clear HC4
   rcases t132 with _ | q133
   ·rw [if_pos (show (none : Option Int).isNone = true by rfl)] at H
    try dsimp only [Option.getD_some] at H
    try simp only [errW_none, errW_some]
    have H' := Aside0.mk H; clear H
    go_wp2
    go_meet
    case rel => exact ⟨_, (decide (t130 > 9999)), rs_, H', ⟨by first | omega | exact Nat.le_refl _⟩, ⟨bk_⟩, ⟨bl_⟩⟩
   ·rw [if_neg (show ¬ (some q133).isNone = true by simp)] at H
    try dsimp only [Option.getD_some] at H
    try simp only [errW_none, errW_some]
    have H' := Aside0.mk H; clear H
    go_wp2
    go_meet
    case rel => exact ⟨_, (true), rs_, H', ⟨by first | omega | exact Nat.le_refl _⟩, ⟨bk_⟩, ⟨bl_⟩⟩
  case rest =>
   clear HC4; (try clear c1); (try clear q1); (try clear p2); (try clear q129); (try clear q133); obtain ⟨kq, x31_3, rfl, HA, HJ3, BK126, HB⟩ := hcut
   cases kq with
   | zero => exact absurd HA.out (by simp [civil_Of.j0])
   | succ kj3 =>
    have H := HA.out; clear HA; simp only [civil_Of.j0] at H
    by_cases c6 : x31_3 = true
    ·subst c6
     have H1 : (some (0, 0, 0, some 2)) = some (r1, r2, r3, r4) := by rw [if_pos rfl] at H; exact H
     clear H; have H := H1; clear H1; simp only [Option.some.injEq, Prod.mk.injEq] at H; obtain ⟨rfl, rfl, rfl, rfl⟩ := H; have hcz7_0 : wc.cell? ⟨gb126, 0, none⟩ = some (.int .i64 0) := (blk_cell BK126.out 0).trans rfl; have hcz7_1 : wc.cell? ⟨gb126, 1, none⟩ = some (.int .i64 0) := (blk_cell BK126.out 1).trans rfl; have hcz7_2 : wc.cell? ⟨gb126, 2, none⟩ = some (.int .i64 0) := (blk_cell BK126.out 2).trans rfl; have hfz7_0 := blk_frozen BK126.out 0; have hfz7_1 := blk_frozen BK126.out 1; have hfz7_2 := blk_frozen BK126.out 2
     go_wp2
     refine bodyPost_ret (results_ct rfl _ _ gb126 26 #[.int .i64 0, .int .i64 0, .int .i64 0] (0, 0) _ rfl (by (with_reducible repeat first | apply blk_drewN | apply blk_drew | apply blk_alloc); refine blk_put (cs := #[.int .i64 0, .int .i64 0, .int .i64 0]) ?_ 2 _ rfl; (with_reducible repeat first | apply blk_drewN | apply blk_drew | apply blk_alloc); refine blk_put (cs := #[.int .i64 0, .int .i64 0, .int .i64 0]) ?_ 1 _ rfl; (with_reducible repeat first | apply blk_drewN | apply blk_drew | apply blk_alloc); refine blk_put (cs := #[.int .i64 0, .int .i64 0, .int .i64 0]) ?_ 0 _ rfl; (with_reducible repeat first | apply blk_drewN | apply blk_drew | apply blk_alloc); exact BK126.out) Tryz.underlying26 rfl (by kernel_rfl)) rfl ?_
     exact en_
    ·replace c6 := Bool.eq_false_iff.mpr c6; subst c6
     have H1 : ((civil_Check.f kj3 (wrap64 ((wrap64 ((wrap64 (400 * t130)) + (wrap64 (Int.tdiv (wrap64 ((wrap64 ((wrap64 (t131 - (wrap64 (Int.tdiv t131 1460)))) + (wrap64 (Int.tdiv t131 36524)))) - (wrap64 (Int.tdiv t131 146096)))) 365)))) + (wrap64 (Int.tdiv (wrap64 (Int.tdiv (wrap64 ((wrap64 (5 * (wrap64 (t131 - (wrap64 ((wrap64 ((wrap64 (365 * (wrap64 (Int.tdiv (wrap64 ((wrap64 ((wrap64 (t131 - (wrap64 (Int.tdiv t131 1460)))) + (wrap64 (Int.tdiv t131 36524)))) - (wrap64 (Int.tdiv t131 146096)))) 365)))) + (wrap64 (Int.tdiv (wrap64 (Int.tdiv (wrap64 ((wrap64 ((wrap64 (t131 - (wrap64 (Int.tdiv t131 1460)))) + (wrap64 (Int.tdiv t131 36524)))) - (wrap64 (Int.tdiv t131 146096)))) 365)) 4)))) - (wrap64 (Int.tdiv (wrap64 (Int.tdiv (wrap64 ((wrap64 ((wrap64 (t131 - (wrap64 (Int.tdiv t131 1460)))) + (wrap64 (Int.tdiv t131 36524)))) - (wrap64 (Int.tdiv t131 146096)))) 365)) 100)))))))) + 2)) 153)) 10)))) (wrap64 ((Int.tmod (wrap64 ((wrap64 (Int.tdiv (wrap64 ((wrap64 (5 * (wrap64 (t131 - (wrap64 ((wrap64 ((wrap64 (365 * (wrap64 (Int.tdiv (wrap64 ((wrap64 ((wrap64 (t131 - (wrap64 (Int.tdiv t131 1460)))) + (wrap64 (Int.tdiv t131 36524)))) - (wrap64 (Int.tdiv t131 146096)))) 365)))) + (wrap64 (Int.tdiv (wrap64 (Int.tdiv (wrap64 ((wrap64 ((wrap64 (t131 - (wrap64 (Int.tdiv t131 1460)))) + (wrap64 (Int.tdiv t131 36524)))) - (wrap64 (Int.tdiv t131 146096)))) 365)) 4)))) - (wrap64 (Int.tdiv (wrap64 (Int.tdiv (wrap64 ((wrap64 ((wrap64 (t131 - (wrap64 (Int.tdiv t131 1460)))) + (wrap64 (Int.tdiv t131 36524)))) - (wrap64 (Int.tdiv t131 146096)))) 365)) 100)))))))) + 2)) 153)) + 2)) 12) + 1)) (wrap64 ((wrap64 ((wrap64 (t131 - (wrap64 ((wrap64 ((wrap64 (365 * (wrap64 (Int.tdiv (wrap64 ((wrap64 ((wrap64 (t131 - (wrap64 (Int.tdiv t131 1460)))) + (wrap64 (Int.tdiv t131 36524)))) - (wrap64 (Int.tdiv t131 146096)))) 365)))) + (wrap64 (Int.tdiv (wrap64 (Int.tdiv (wrap64 ((wrap64 ((wrap64 (t131 - (wrap64 (Int.tdiv t131 1460)))) + (wrap64 (Int.tdiv t131 36524)))) - (wrap64 (Int.tdiv t131 146096)))) 365)) 4)))) - (wrap64 (Int.tdiv (wrap64 (Int.tdiv (wrap64 ((wrap64 ((wrap64 (t131 - (wrap64 (Int.tdiv t131 1460)))) + (wrap64 (Int.tdiv t131 36524)))) - (wrap64 (Int.tdiv t131 146096)))) 365)) 100)))))) - (wrap64 (Int.tdiv (wrap64 ((wrap64 (153 * (wrap64 (Int.tdiv (wrap64 ((wrap64 (5 * (wrap64 (t131 - (wrap64 ((wrap64 ((wrap64 (365 * (wrap64 (Int.tdiv (wrap64 ((wrap64 ((wrap64 (t131 - (wrap64 (Int.tdiv t131 1460)))) + (wrap64 (Int.tdiv t131 36524)))) - (wrap64 (Int.tdiv t131 146096)))) 365)))) + (wrap64 (Int.tdiv (wrap64 (Int.tdiv (wrap64 ((wrap64 ((wrap64 (t131 - (wrap64 (Int.tdiv t131 1460)))) + (wrap64 (Int.tdiv t131 36524)))) - (wrap64 (Int.tdiv t131 146096)))) 365)) 4)))) - (wrap64 (Int.tdiv (wrap64 (Int.tdiv (wrap64 ((wrap64 ((wrap64 (t131 - (wrap64 (Int.tdiv t131 1460)))) + (wrap64 (Int.tdiv t131 36524)))) - (wrap64 (Int.tdiv t131 146096)))) 365)) 100)))))))) + 2)) 153)))) + 2)) 5)))) + 1))).bind fun t135 => (if t135.isNone = true then (some (wrap64 ((wrap64 ((wrap64 (400 * t130)) + (wrap64 (Int.tdiv (wrap64 ((wrap64 ((wrap64 (t131 - (wrap64 (Int.tdiv t131 1460)))) + (wrap64 (Int.tdiv t131 36524)))) - (wrap64 (Int.tdiv t131 146096)))) 365)))) + (wrap64 (Int.tdiv (wrap64 (Int.tdiv (wrap64 ((wrap64 (5 * (wrap64 (t131 - (wrap64 ((wrap64 ((wrap64 (365 * (wrap64 (Int.tdiv (wrap64 ((wrap64 ((wrap64 (t131 - (wrap64 (Int.tdiv t131 1460)))) + (wrap64 (Int.tdiv t131 36524)))) - (wrap64 (Int.tdiv t131 146096)))) 365)))) + (wrap64 (Int.tdiv (wrap64 (Int.tdiv (wrap64 ((wrap64 ((wrap64 (t131 - (wrap64 (Int.tdiv t131 1460)))) + (wrap64 (Int.tdiv t131 36524)))) - (wrap64 (Int.tdiv t131 146096)))) 365)) 4)))) - (wrap64 (Int.tdiv (wrap64 (Int.tdiv (wrap64 ((wrap64 ((wrap64 (t131 - (wrap64 (Int.tdiv t131 1460)))) + (wrap64 (Int.tdiv t131 36524)))) - (wrap64 (Int.tdiv t131 146096)))) 365)) 100)))))))) + 2)) 153)) 10))), wrap64 ((Int.tmod (wrap64 ((wrap64 (Int.tdiv (wrap64 ((wrap64 (5 * (wrap64 (t131 - (wrap64 ((wrap64 ((wrap64 (365 * (wrap64 (Int.tdiv (wrap64 ((wrap64 ((wrap64 (t131 - (wrap64 (Int.tdiv t131 1460)))) + (wrap64 (Int.tdiv t131 36524)))) - (wrap64 (Int.tdiv t131 146096)))) 365)))) + (wrap64 (Int.tdiv (wrap64 (Int.tdiv (wrap64 ((wrap64 ((wrap64 (t131 - (wrap64 (Int.tdiv t131 1460)))) + (wrap64 (Int.tdiv t131 36524)))) - (wrap64 (Int.tdiv t131 146096)))) 365)) 4)))) - (wrap64 (Int.tdiv (wrap64 (Int.tdiv (wrap64 ((wrap64 ((wrap64 (t131 - (wrap64 (Int.tdiv t131 1460)))) + (wrap64 (Int.tdiv t131 36524)))) - (wrap64 (Int.tdiv t131 146096)))) 365)) 100)))))))) + 2)) 153)) + 2)) 12) + 1), wrap64 ((wrap64 ((wrap64 (t131 - (wrap64 ((wrap64 ((wrap64 (365 * (wrap64 (Int.tdiv (wrap64 ((wrap64 ((wrap64 (t131 - (wrap64 (Int.tdiv t131 1460)))) + (wrap64 (Int.tdiv t131 36524)))) - (wrap64 (Int.tdiv t131 146096)))) 365)))) + (wrap64 (Int.tdiv (wrap64 (Int.tdiv (wrap64 ((wrap64 ((wrap64 (t131 - (wrap64 (Int.tdiv t131 1460)))) + (wrap64 (Int.tdiv t131 36524)))) - (wrap64 (Int.tdiv t131 146096)))) 365)) 4)))) - (wrap64 (Int.tdiv (wrap64 (Int.tdiv (wrap64 ((wrap64 ((wrap64 (t131 - (wrap64 (Int.tdiv t131 1460)))) + (wrap64 (Int.tdiv t131 36524)))) - (wrap64 (Int.tdiv t131 146096)))) 365)) 100)))))) - (wrap64 (Int.tdiv (wrap64 ((wrap64 (153 * (wrap64 (Int.tdiv (wrap64 ((wrap64 (5 * (wrap64 (t131 - (wrap64 ((wrap64 ((wrap64 (365 * (wrap64 (Int.tdiv (wrap64 ((wrap64 ((wrap64 (t131 - (wrap64 (Int.tdiv t131 1460)))) + (wrap64 (Int.tdiv t131 36524)))) - (wrap64 (Int.tdiv t131 146096)))) 365)))) + (wrap64 (Int.tdiv (wrap64 (Int.tdiv (wrap64 ((wrap64 ((wrap64 (t131 - (wrap64 (Int.tdiv t131 1460)))) + (wrap64 (Int.tdiv t131 36524)))) - (wrap64 (Int.tdiv t131 146096)))) 365)) 4)))) - (wrap64 (Int.tdiv (wrap64 (Int.tdiv (wrap64 ((wrap64 ((wrap64 (t131 - (wrap64 (Int.tdiv t131 1460)))) + (wrap64 (Int.tdiv t131 36524)))) - (wrap64 (Int.tdiv t131 146096)))) 365)) 100)))))))) + 2)) 153)))) + 2)) 5)))) + 1), none)) else (some (0, 0, 0, some 2)))) = some (r1, r2, r3, r4) := by rw [if_neg (show ¬ (false = true) by decide)] at H; exact H
     clear H; have H := H1; clear H1; replace H := Option.bind_eq_some_iff.mp H; obtain ⟨t135, A80, H⟩ := H; (try dsimp only at H); have A8 := Aside0.mk A80; clear A80
     rcases t135 with _ | q136
     ·rw [if_pos (show (none : Option Int).isNone = true by rfl)] at H
      try dsimp only [Option.getD_some] at H
      try simp only [errW_none, errW_some]
      simp only [Option.some.injEq, Prod.mk.injEq] at H; obtain ⟨rfl, rfl, rfl, rfl⟩ := H
      go_wp2_with (first | ((with_reducible refine gate_dst (N := 10) rfl ?_); refine be_ (N := 10) (cs := #[.int .i64 0, .int .i64 0, .int .i64 0]) (t := 26) ?_; intro gb134 hg w9 hbox hb; have BK134 := Aside0.mk hbox; have GW134 := Aside0.mk (sz_ hg : w.heap.size ≤ gb134); have GE134 := GW134; have NB126_134 := Aside0.mk ((by rw [hg]; exact Nat.ne_of_lt (blk_lt (g := gb126) (o := .cells #[.int .i64 0, .int .i64 0, .int .i64 0] 26 (0, 0)) bk_) : gb126 ≠ gb134)); have NB134_126 := Aside0.mk ((by rw [hg]; exact Nat.ne_of_gt (blk_lt (g := gb126) (o := .cells #[.int .i64 0, .int .i64 0, .int .i64 0] 26 (0, 0)) bk_) : gb134 ≠ gb126)); replace BK126 := bb_ BK126.out hb; replace HB := bs_ hb; clear hb hbox hg; have hnb10 := NB134_126.out; have hnc10 := NB126_134.out; have hcz11_0 : w9.cell? ⟨gb134, 0, none⟩ = some (.int .i64 0) := (blk_cell BK134.out 0).trans rfl; have hcz11_1 : w9.cell? ⟨gb134, 1, none⟩ = some (.int .i64 0) := (blk_cell BK134.out 1).trans rfl; have hcz11_2 : w9.cell? ⟨gb134, 2, none⟩ = some (.int .i64 0) := (blk_cell BK134.out 2).trans rfl; have hfz11_0 := blk_frozen BK134.out 0; have hfz11_1 := blk_frozen BK134.out 1; have hfz11_2 := blk_frozen BK134.out 2) | ((with_reducible refine gate_callee (f := 22) rfl ?_); refine gd_ (some 79) Tryz.func22 (civil_Check.calls kj3 (wrap64 ((wrap64 ((wrap64 (400 * t130)) + (wrap64 (Int.tdiv (wrap64 ((wrap64 ((wrap64 (t131 - (wrap64 (Int.tdiv t131 1460)))) + (wrap64 (Int.tdiv t131 36524)))) - (wrap64 (Int.tdiv t131 146096)))) 365)))) + (wrap64 (Int.tdiv (wrap64 (Int.tdiv (wrap64 ((wrap64 (5 * (wrap64 (t131 - (wrap64 ((wrap64 ((wrap64 (365 * (wrap64 (Int.tdiv (wrap64 ((wrap64 ((wrap64 (t131 - (wrap64 (Int.tdiv t131 1460)))) + (wrap64 (Int.tdiv t131 36524)))) - (wrap64 (Int.tdiv t131 146096)))) 365)))) + (wrap64 (Int.tdiv (wrap64 (Int.tdiv (wrap64 ((wrap64 ((wrap64 (t131 - (wrap64 (Int.tdiv t131 1460)))) + (wrap64 (Int.tdiv t131 36524)))) - (wrap64 (Int.tdiv t131 146096)))) 365)) 4)))) - (wrap64 (Int.tdiv (wrap64 (Int.tdiv (wrap64 ((wrap64 ((wrap64 (t131 - (wrap64 (Int.tdiv t131 1460)))) + (wrap64 (Int.tdiv t131 36524)))) - (wrap64 (Int.tdiv t131 146096)))) 365)) 100)))))))) + 2)) 153)) 10)))) (wrap64 ((Int.tmod (wrap64 ((wrap64 (Int.tdiv (wrap64 ((wrap64 (5 * (wrap64 (t131 - (wrap64 ((wrap64 ((wrap64 (365 * (wrap64 (Int.tdiv (wrap64 ((wrap64 ((wrap64 (t131 - (wrap64 (Int.tdiv t131 1460)))) + (wrap64 (Int.tdiv t131 36524)))) - (wrap64 (Int.tdiv t131 146096)))) 365)))) + (wrap64 (Int.tdiv (wrap64 (Int.tdiv (wrap64 ((wrap64 ((wrap64 (t131 - (wrap64 (Int.tdiv t131 1460)))) + (wrap64 (Int.tdiv t131 36524)))) - (wrap64 (Int.tdiv t131 146096)))) 365)) 4)))) - (wrap64 (Int.tdiv (wrap64 (Int.tdiv (wrap64 ((wrap64 ((wrap64 (t131 - (wrap64 (Int.tdiv t131 1460)))) + (wrap64 (Int.tdiv t131 36524)))) - (wrap64 (Int.tdiv t131 146096)))) 365)) 100)))))))) + 2)) 153)) + 2)) 12) + 1)) (wrap64 ((wrap64 ((wrap64 (t131 - (wrap64 ((wrap64 ((wrap64 (365 * (wrap64 (Int.tdiv (wrap64 ((wrap64 ((wrap64 (t131 - (wrap64 (Int.tdiv t131 1460)))) + (wrap64 (Int.tdiv t131 36524)))) - (wrap64 (Int.tdiv t131 146096)))) 365)))) + (wrap64 (Int.tdiv (wrap64 (Int.tdiv (wrap64 ((wrap64 ((wrap64 (t131 - (wrap64 (Int.tdiv t131 1460)))) + (wrap64 (Int.tdiv t131 36524)))) - (wrap64 (Int.tdiv t131 146096)))) 365)) 4)))) - (wrap64 (Int.tdiv (wrap64 (Int.tdiv (wrap64 ((wrap64 ((wrap64 (t131 - (wrap64 (Int.tdiv t131 1460)))) + (wrap64 (Int.tdiv t131 36524)))) - (wrap64 (Int.tdiv t131 146096)))) 365)) 100)))))) - (wrap64 (Int.tdiv (wrap64 ((wrap64 (153 * (wrap64 (Int.tdiv (wrap64 ((wrap64 (5 * (wrap64 (t131 - (wrap64 ((wrap64 ((wrap64 (365 * (wrap64 (Int.tdiv (wrap64 ((wrap64 ((wrap64 (t131 - (wrap64 (Int.tdiv t131 1460)))) + (wrap64 (Int.tdiv t131 36524)))) - (wrap64 (Int.tdiv t131 146096)))) 365)))) + (wrap64 (Int.tdiv (wrap64 (Int.tdiv (wrap64 ((wrap64 ((wrap64 (t131 - (wrap64 (Int.tdiv t131 1460)))) + (wrap64 (Int.tdiv t131 36524)))) - (wrap64 (Int.tdiv t131 146096)))) 365)) 4)))) - (wrap64 (Int.tdiv (wrap64 (Int.tdiv (wrap64 ((wrap64 ((wrap64 (t131 - (wrap64 (Int.tdiv t131 1460)))) + (wrap64 (Int.tdiv t131 36524)))) - (wrap64 (Int.tdiv t131 146096)))) 365)) 100)))))))) + 2)) 153)))) + 2)) 5)))) + 1)) none _ A8.out) ?_; intro w12 hb; replace BK126 := Aside0.mk (blk_below (g := gb126) (o := .cells #[.int .i64 0, .int .i64 0, .int .i64 0] 26 (0, 0)) (by (with_reducible repeat first | apply blk_drewN | apply blk_drew | apply blk_alloc); refine blk_far ?_ NB126_134.out _; (with_reducible repeat first | apply blk_drewN | apply blk_drew | apply blk_alloc); refine blk_far ?_ NB126_134.out _; (with_reducible repeat first | apply blk_drewN | apply blk_drew | apply blk_alloc); refine blk_far ?_ NB126_134.out _; (with_reducible repeat first | apply blk_drewN | apply blk_drew | apply blk_alloc); exact BK126.out) hb); replace BK134 := Aside0.mk (blk_below (g := gb134) (o := .cells #[.int .i64 (wrap64 ((wrap64 ((wrap64 (400 * t130)) + (wrap64 (Int.tdiv (wrap64 ((wrap64 ((wrap64 (t131 - (wrap64 (Int.tdiv t131 1460)))) + (wrap64 (Int.tdiv t131 36524)))) - (wrap64 (Int.tdiv t131 146096)))) 365)))) + (wrap64 (Int.tdiv (wrap64 (Int.tdiv (wrap64 ((wrap64 (5 * (wrap64 (t131 - (wrap64 ((wrap64 ((wrap64 (365 * (wrap64 (Int.tdiv (wrap64 ((wrap64 ((wrap64 (t131 - (wrap64 (Int.tdiv t131 1460)))) + (wrap64 (Int.tdiv t131 36524)))) - (wrap64 (Int.tdiv t131 146096)))) 365)))) + (wrap64 (Int.tdiv (wrap64 (Int.tdiv (wrap64 ((wrap64 ((wrap64 (t131 - (wrap64 (Int.tdiv t131 1460)))) + (wrap64 (Int.tdiv t131 36524)))) - (wrap64 (Int.tdiv t131 146096)))) 365)) 4)))) - (wrap64 (Int.tdiv (wrap64 (Int.tdiv (wrap64 ((wrap64 ((wrap64 (t131 - (wrap64 (Int.tdiv t131 1460)))) + (wrap64 (Int.tdiv t131 36524)))) - (wrap64 (Int.tdiv t131 146096)))) 365)) 100)))))))) + 2)) 153)) 10)))), .int .i64 (wrap64 ((Int.tmod (wrap64 ((wrap64 (Int.tdiv (wrap64 ((wrap64 (5 * (wrap64 (t131 - (wrap64 ((wrap64 ((wrap64 (365 * (wrap64 (Int.tdiv (wrap64 ((wrap64 ((wrap64 (t131 - (wrap64 (Int.tdiv t131 1460)))) + (wrap64 (Int.tdiv t131 36524)))) - (wrap64 (Int.tdiv t131 146096)))) 365)))) + (wrap64 (Int.tdiv (wrap64 (Int.tdiv (wrap64 ((wrap64 ((wrap64 (t131 - (wrap64 (Int.tdiv t131 1460)))) + (wrap64 (Int.tdiv t131 36524)))) - (wrap64 (Int.tdiv t131 146096)))) 365)) 4)))) - (wrap64 (Int.tdiv (wrap64 (Int.tdiv (wrap64 ((wrap64 ((wrap64 (t131 - (wrap64 (Int.tdiv t131 1460)))) + (wrap64 (Int.tdiv t131 36524)))) - (wrap64 (Int.tdiv t131 146096)))) 365)) 100)))))))) + 2)) 153)) + 2)) 12) + 1)), .int .i64 (wrap64 ((wrap64 ((wrap64 (t131 - (wrap64 ((wrap64 ((wrap64 (365 * (wrap64 (Int.tdiv (wrap64 ((wrap64 ((wrap64 (t131 - (wrap64 (Int.tdiv t131 1460)))) + (wrap64 (Int.tdiv t131 36524)))) - (wrap64 (Int.tdiv t131 146096)))) 365)))) + (wrap64 (Int.tdiv (wrap64 (Int.tdiv (wrap64 ((wrap64 ((wrap64 (t131 - (wrap64 (Int.tdiv t131 1460)))) + (wrap64 (Int.tdiv t131 36524)))) - (wrap64 (Int.tdiv t131 146096)))) 365)) 4)))) - (wrap64 (Int.tdiv (wrap64 (Int.tdiv (wrap64 ((wrap64 ((wrap64 (t131 - (wrap64 (Int.tdiv t131 1460)))) + (wrap64 (Int.tdiv t131 36524)))) - (wrap64 (Int.tdiv t131 146096)))) 365)) 100)))))) - (wrap64 (Int.tdiv (wrap64 ((wrap64 (153 * (wrap64 (Int.tdiv (wrap64 ((wrap64 (5 * (wrap64 (t131 - (wrap64 ((wrap64 ((wrap64 (365 * (wrap64 (Int.tdiv (wrap64 ((wrap64 ((wrap64 (t131 - (wrap64 (Int.tdiv t131 1460)))) + (wrap64 (Int.tdiv t131 36524)))) - (wrap64 (Int.tdiv t131 146096)))) 365)))) + (wrap64 (Int.tdiv (wrap64 (Int.tdiv (wrap64 ((wrap64 ((wrap64 (t131 - (wrap64 (Int.tdiv t131 1460)))) + (wrap64 (Int.tdiv t131 36524)))) - (wrap64 (Int.tdiv t131 146096)))) 365)) 4)))) - (wrap64 (Int.tdiv (wrap64 (Int.tdiv (wrap64 ((wrap64 ((wrap64 (t131 - (wrap64 (Int.tdiv t131 1460)))) + (wrap64 (Int.tdiv t131 36524)))) - (wrap64 (Int.tdiv t131 146096)))) 365)) 100)))))))) + 2)) 153)))) + 2)) 5)))) + 1))] 26 (0, 0)) (by (with_reducible repeat first | apply blk_drewN | apply blk_drew | apply blk_alloc); refine blk_put (cs := #[.int .i64 (wrap64 ((wrap64 ((wrap64 (400 * t130)) + (wrap64 (Int.tdiv (wrap64 ((wrap64 ((wrap64 (t131 - (wrap64 (Int.tdiv t131 1460)))) + (wrap64 (Int.tdiv t131 36524)))) - (wrap64 (Int.tdiv t131 146096)))) 365)))) + (wrap64 (Int.tdiv (wrap64 (Int.tdiv (wrap64 ((wrap64 (5 * (wrap64 (t131 - (wrap64 ((wrap64 ((wrap64 (365 * (wrap64 (Int.tdiv (wrap64 ((wrap64 ((wrap64 (t131 - (wrap64 (Int.tdiv t131 1460)))) + (wrap64 (Int.tdiv t131 36524)))) - (wrap64 (Int.tdiv t131 146096)))) 365)))) + (wrap64 (Int.tdiv (wrap64 (Int.tdiv (wrap64 ((wrap64 ((wrap64 (t131 - (wrap64 (Int.tdiv t131 1460)))) + (wrap64 (Int.tdiv t131 36524)))) - (wrap64 (Int.tdiv t131 146096)))) 365)) 4)))) - (wrap64 (Int.tdiv (wrap64 (Int.tdiv (wrap64 ((wrap64 ((wrap64 (t131 - (wrap64 (Int.tdiv t131 1460)))) + (wrap64 (Int.tdiv t131 36524)))) - (wrap64 (Int.tdiv t131 146096)))) 365)) 100)))))))) + 2)) 153)) 10)))), .int .i64 (wrap64 ((Int.tmod (wrap64 ((wrap64 (Int.tdiv (wrap64 ((wrap64 (5 * (wrap64 (t131 - (wrap64 ((wrap64 ((wrap64 (365 * (wrap64 (Int.tdiv (wrap64 ((wrap64 ((wrap64 (t131 - (wrap64 (Int.tdiv t131 1460)))) + (wrap64 (Int.tdiv t131 36524)))) - (wrap64 (Int.tdiv t131 146096)))) 365)))) + (wrap64 (Int.tdiv (wrap64 (Int.tdiv (wrap64 ((wrap64 ((wrap64 (t131 - (wrap64 (Int.tdiv t131 1460)))) + (wrap64 (Int.tdiv t131 36524)))) - (wrap64 (Int.tdiv t131 146096)))) 365)) 4)))) - (wrap64 (Int.tdiv (wrap64 (Int.tdiv (wrap64 ((wrap64 ((wrap64 (t131 - (wrap64 (Int.tdiv t131 1460)))) + (wrap64 (Int.tdiv t131 36524)))) - (wrap64 (Int.tdiv t131 146096)))) 365)) 100)))))))) + 2)) 153)) + 2)) 12) + 1)), .int .i64 0]) ?_ 2 _ rfl; (with_reducible repeat first | apply blk_drewN | apply blk_drew | apply blk_alloc); refine blk_put (cs := #[.int .i64 (wrap64 ((wrap64 ((wrap64 (400 * t130)) + (wrap64 (Int.tdiv (wrap64 ((wrap64 ((wrap64 (t131 - (wrap64 (Int.tdiv t131 1460)))) + (wrap64 (Int.tdiv t131 36524)))) - (wrap64 (Int.tdiv t131 146096)))) 365)))) + (wrap64 (Int.tdiv (wrap64 (Int.tdiv (wrap64 ((wrap64 (5 * (wrap64 (t131 - (wrap64 ((wrap64 ((wrap64 (365 * (wrap64 (Int.tdiv (wrap64 ((wrap64 ((wrap64 (t131 - (wrap64 (Int.tdiv t131 1460)))) + (wrap64 (Int.tdiv t131 36524)))) - (wrap64 (Int.tdiv t131 146096)))) 365)))) + (wrap64 (Int.tdiv (wrap64 (Int.tdiv (wrap64 ((wrap64 ((wrap64 (t131 - (wrap64 (Int.tdiv t131 1460)))) + (wrap64 (Int.tdiv t131 36524)))) - (wrap64 (Int.tdiv t131 146096)))) 365)) 4)))) - (wrap64 (Int.tdiv (wrap64 (Int.tdiv (wrap64 ((wrap64 ((wrap64 (t131 - (wrap64 (Int.tdiv t131 1460)))) + (wrap64 (Int.tdiv t131 36524)))) - (wrap64 (Int.tdiv t131 146096)))) 365)) 100)))))))) + 2)) 153)) 10)))), .int .i64 0, .int .i64 0]) ?_ 1 _ rfl; (with_reducible repeat first | apply blk_drewN | apply blk_drew | apply blk_alloc); refine blk_put (cs := #[.int .i64 0, .int .i64 0, .int .i64 0]) ?_ 0 _ rfl; (with_reducible repeat first | apply blk_drewN | apply blk_drew | apply blk_alloc); exact BK134.out) hb); replace HB := bs_ hb; (try clear hb); (try simp only [errW_none, errW_some]); have hcz13_0 : w12.cell? ⟨gb134, 0, none⟩ = some (.int .i64 (wrap64 ((wrap64 ((wrap64 (400 * t130)) + (wrap64 (Int.tdiv (wrap64 ((wrap64 ((wrap64 (t131 - (wrap64 (Int.tdiv t131 1460)))) + (wrap64 (Int.tdiv t131 36524)))) - (wrap64 (Int.tdiv t131 146096)))) 365)))) + (wrap64 (Int.tdiv (wrap64 (Int.tdiv (wrap64 ((wrap64 (5 * (wrap64 (t131 - (wrap64 ((wrap64 ((wrap64 (365 * (wrap64 (Int.tdiv (wrap64 ((wrap64 ((wrap64 (t131 - (wrap64 (Int.tdiv t131 1460)))) + (wrap64 (Int.tdiv t131 36524)))) - (wrap64 (Int.tdiv t131 146096)))) 365)))) + (wrap64 (Int.tdiv (wrap64 (Int.tdiv (wrap64 ((wrap64 ((wrap64 (t131 - (wrap64 (Int.tdiv t131 1460)))) + (wrap64 (Int.tdiv t131 36524)))) - (wrap64 (Int.tdiv t131 146096)))) 365)) 4)))) - (wrap64 (Int.tdiv (wrap64 (Int.tdiv (wrap64 ((wrap64 ((wrap64 (t131 - (wrap64 (Int.tdiv t131 1460)))) + (wrap64 (Int.tdiv t131 36524)))) - (wrap64 (Int.tdiv t131 146096)))) 365)) 100)))))))) + 2)) 153)) 10))))) := (blk_cell BK134.out 0).trans rfl; have hcz13_1 : w12.cell? ⟨gb134, 1, none⟩ = some (.int .i64 (wrap64 ((Int.tmod (wrap64 ((wrap64 (Int.tdiv (wrap64 ((wrap64 (5 * (wrap64 (t131 - (wrap64 ((wrap64 ((wrap64 (365 * (wrap64 (Int.tdiv (wrap64 ((wrap64 ((wrap64 (t131 - (wrap64 (Int.tdiv t131 1460)))) + (wrap64 (Int.tdiv t131 36524)))) - (wrap64 (Int.tdiv t131 146096)))) 365)))) + (wrap64 (Int.tdiv (wrap64 (Int.tdiv (wrap64 ((wrap64 ((wrap64 (t131 - (wrap64 (Int.tdiv t131 1460)))) + (wrap64 (Int.tdiv t131 36524)))) - (wrap64 (Int.tdiv t131 146096)))) 365)) 4)))) - (wrap64 (Int.tdiv (wrap64 (Int.tdiv (wrap64 ((wrap64 ((wrap64 (t131 - (wrap64 (Int.tdiv t131 1460)))) + (wrap64 (Int.tdiv t131 36524)))) - (wrap64 (Int.tdiv t131 146096)))) 365)) 100)))))))) + 2)) 153)) + 2)) 12) + 1))) := (blk_cell BK134.out 1).trans rfl; have hcz13_2 : w12.cell? ⟨gb134, 2, none⟩ = some (.int .i64 (wrap64 ((wrap64 ((wrap64 (t131 - (wrap64 ((wrap64 ((wrap64 (365 * (wrap64 (Int.tdiv (wrap64 ((wrap64 ((wrap64 (t131 - (wrap64 (Int.tdiv t131 1460)))) + (wrap64 (Int.tdiv t131 36524)))) - (wrap64 (Int.tdiv t131 146096)))) 365)))) + (wrap64 (Int.tdiv (wrap64 (Int.tdiv (wrap64 ((wrap64 ((wrap64 (t131 - (wrap64 (Int.tdiv t131 1460)))) + (wrap64 (Int.tdiv t131 36524)))) - (wrap64 (Int.tdiv t131 146096)))) 365)) 4)))) - (wrap64 (Int.tdiv (wrap64 (Int.tdiv (wrap64 ((wrap64 ((wrap64 (t131 - (wrap64 (Int.tdiv t131 1460)))) + (wrap64 (Int.tdiv t131 36524)))) - (wrap64 (Int.tdiv t131 146096)))) 365)) 100)))))) - (wrap64 (Int.tdiv (wrap64 ((wrap64 (153 * (wrap64 (Int.tdiv (wrap64 ((wrap64 (5 * (wrap64 (t131 - (wrap64 ((wrap64 ((wrap64 (365 * (wrap64 (Int.tdiv (wrap64 ((wrap64 ((wrap64 (t131 - (wrap64 (Int.tdiv t131 1460)))) + (wrap64 (Int.tdiv t131 36524)))) - (wrap64 (Int.tdiv t131 146096)))) 365)))) + (wrap64 (Int.tdiv (wrap64 (Int.tdiv (wrap64 ((wrap64 ((wrap64 (t131 - (wrap64 (Int.tdiv t131 1460)))) + (wrap64 (Int.tdiv t131 36524)))) - (wrap64 (Int.tdiv t131 146096)))) 365)) 4)))) - (wrap64 (Int.tdiv (wrap64 (Int.tdiv (wrap64 ((wrap64 ((wrap64 (t131 - (wrap64 (Int.tdiv t131 1460)))) + (wrap64 (Int.tdiv t131 36524)))) - (wrap64 (Int.tdiv t131 146096)))) 365)) 100)))))))) + 2)) 153)))) + 2)) 5)))) + 1))) := (blk_cell BK134.out 2).trans rfl; have hfz13_0 := blk_frozen BK134.out 0; have hfz13_1 := blk_frozen BK134.out 1; have hfz13_2 := blk_frozen BK134.out 2; have hcz14_0 : w12.cell? ⟨gb126, 0, none⟩ = some (.int .i64 0) := (blk_cell BK126.out 0).trans rfl; have hcz14_1 : w12.cell? ⟨gb126, 1, none⟩ = some (.int .i64 0) := (blk_cell BK126.out 1).trans rfl; have hcz14_2 : w12.cell? ⟨gb126, 2, none⟩ = some (.int .i64 0) := (blk_cell BK126.out 2).trans rfl; have hfz14_0 := blk_frozen BK126.out 0; have hfz14_1 := blk_frozen BK126.out 1; have hfz14_2 := blk_frozen BK126.out 2))
      refine bodyPost_ret (results_ct rfl _ _ gb126 26 #[.int .i64 (wrap64 ((wrap64 ((wrap64 (400 * t130)) + (wrap64 (Int.tdiv (wrap64 ((wrap64 ((wrap64 (t131 - (wrap64 (Int.tdiv t131 1460)))) + (wrap64 (Int.tdiv t131 36524)))) - (wrap64 (Int.tdiv t131 146096)))) 365)))) + (wrap64 (Int.tdiv (wrap64 (Int.tdiv (wrap64 ((wrap64 (5 * (wrap64 (t131 - (wrap64 ((wrap64 ((wrap64 (365 * (wrap64 (Int.tdiv (wrap64 ((wrap64 ((wrap64 (t131 - (wrap64 (Int.tdiv t131 1460)))) + (wrap64 (Int.tdiv t131 36524)))) - (wrap64 (Int.tdiv t131 146096)))) 365)))) + (wrap64 (Int.tdiv (wrap64 (Int.tdiv (wrap64 ((wrap64 ((wrap64 (t131 - (wrap64 (Int.tdiv t131 1460)))) + (wrap64 (Int.tdiv t131 36524)))) - (wrap64 (Int.tdiv t131 146096)))) 365)) 4)))) - (wrap64 (Int.tdiv (wrap64 (Int.tdiv (wrap64 ((wrap64 ((wrap64 (t131 - (wrap64 (Int.tdiv t131 1460)))) + (wrap64 (Int.tdiv t131 36524)))) - (wrap64 (Int.tdiv t131 146096)))) 365)) 100)))))))) + 2)) 153)) 10)))), .int .i64 (wrap64 ((Int.tmod (wrap64 ((wrap64 (Int.tdiv (wrap64 ((wrap64 (5 * (wrap64 (t131 - (wrap64 ((wrap64 ((wrap64 (365 * (wrap64 (Int.tdiv (wrap64 ((wrap64 ((wrap64 (t131 - (wrap64 (Int.tdiv t131 1460)))) + (wrap64 (Int.tdiv t131 36524)))) - (wrap64 (Int.tdiv t131 146096)))) 365)))) + (wrap64 (Int.tdiv (wrap64 (Int.tdiv (wrap64 ((wrap64 ((wrap64 (t131 - (wrap64 (Int.tdiv t131 1460)))) + (wrap64 (Int.tdiv t131 36524)))) - (wrap64 (Int.tdiv t131 146096)))) 365)) 4)))) - (wrap64 (Int.tdiv (wrap64 (Int.tdiv (wrap64 ((wrap64 ((wrap64 (t131 - (wrap64 (Int.tdiv t131 1460)))) + (wrap64 (Int.tdiv t131 36524)))) - (wrap64 (Int.tdiv t131 146096)))) 365)) 100)))))))) + 2)) 153)) + 2)) 12) + 1)), .int .i64 (wrap64 ((wrap64 ((wrap64 (t131 - (wrap64 ((wrap64 ((wrap64 (365 * (wrap64 (Int.tdiv (wrap64 ((wrap64 ((wrap64 (t131 - (wrap64 (Int.tdiv t131 1460)))) + (wrap64 (Int.tdiv t131 36524)))) - (wrap64 (Int.tdiv t131 146096)))) 365)))) + (wrap64 (Int.tdiv (wrap64 (Int.tdiv (wrap64 ((wrap64 ((wrap64 (t131 - (wrap64 (Int.tdiv t131 1460)))) + (wrap64 (Int.tdiv t131 36524)))) - (wrap64 (Int.tdiv t131 146096)))) 365)) 4)))) - (wrap64 (Int.tdiv (wrap64 (Int.tdiv (wrap64 ((wrap64 ((wrap64 (t131 - (wrap64 (Int.tdiv t131 1460)))) + (wrap64 (Int.tdiv t131 36524)))) - (wrap64 (Int.tdiv t131 146096)))) 365)) 100)))))) - (wrap64 (Int.tdiv (wrap64 ((wrap64 (153 * (wrap64 (Int.tdiv (wrap64 ((wrap64 (5 * (wrap64 (t131 - (wrap64 ((wrap64 ((wrap64 (365 * (wrap64 (Int.tdiv (wrap64 ((wrap64 ((wrap64 (t131 - (wrap64 (Int.tdiv t131 1460)))) + (wrap64 (Int.tdiv t131 36524)))) - (wrap64 (Int.tdiv t131 146096)))) 365)))) + (wrap64 (Int.tdiv (wrap64 (Int.tdiv (wrap64 ((wrap64 ((wrap64 (t131 - (wrap64 (Int.tdiv t131 1460)))) + (wrap64 (Int.tdiv t131 36524)))) - (wrap64 (Int.tdiv t131 146096)))) 365)) 4)))) - (wrap64 (Int.tdiv (wrap64 (Int.tdiv (wrap64 ((wrap64 ((wrap64 (t131 - (wrap64 (Int.tdiv t131 1460)))) + (wrap64 (Int.tdiv t131 36524)))) - (wrap64 (Int.tdiv t131 146096)))) 365)) 100)))))))) + 2)) 153)))) + 2)) 5)))) + 1))] (0, 0) _ rfl (by (with_reducible repeat first | apply blk_drewN | apply blk_drew | apply blk_alloc); refine blk_put (cs := #[.int .i64 (wrap64 ((wrap64 ((wrap64 (400 * t130)) + (wrap64 (Int.tdiv (wrap64 ((wrap64 ((wrap64 (t131 - (wrap64 (Int.tdiv t131 1460)))) + (wrap64 (Int.tdiv t131 36524)))) - (wrap64 (Int.tdiv t131 146096)))) 365)))) + (wrap64 (Int.tdiv (wrap64 (Int.tdiv (wrap64 ((wrap64 (5 * (wrap64 (t131 - (wrap64 ((wrap64 ((wrap64 (365 * (wrap64 (Int.tdiv (wrap64 ((wrap64 ((wrap64 (t131 - (wrap64 (Int.tdiv t131 1460)))) + (wrap64 (Int.tdiv t131 36524)))) - (wrap64 (Int.tdiv t131 146096)))) 365)))) + (wrap64 (Int.tdiv (wrap64 (Int.tdiv (wrap64 ((wrap64 ((wrap64 (t131 - (wrap64 (Int.tdiv t131 1460)))) + (wrap64 (Int.tdiv t131 36524)))) - (wrap64 (Int.tdiv t131 146096)))) 365)) 4)))) - (wrap64 (Int.tdiv (wrap64 (Int.tdiv (wrap64 ((wrap64 ((wrap64 (t131 - (wrap64 (Int.tdiv t131 1460)))) + (wrap64 (Int.tdiv t131 36524)))) - (wrap64 (Int.tdiv t131 146096)))) 365)) 100)))))))) + 2)) 153)) 10)))), .int .i64 (wrap64 ((Int.tmod (wrap64 ((wrap64 (Int.tdiv (wrap64 ((wrap64 (5 * (wrap64 (t131 - (wrap64 ((wrap64 ((wrap64 (365 * (wrap64 (Int.tdiv (wrap64 ((wrap64 ((wrap64 (t131 - (wrap64 (Int.tdiv t131 1460)))) + (wrap64 (Int.tdiv t131 36524)))) - (wrap64 (Int.tdiv t131 146096)))) 365)))) + (wrap64 (Int.tdiv (wrap64 (Int.tdiv (wrap64 ((wrap64 ((wrap64 (t131 - (wrap64 (Int.tdiv t131 1460)))) + (wrap64 (Int.tdiv t131 36524)))) - (wrap64 (Int.tdiv t131 146096)))) 365)) 4)))) - (wrap64 (Int.tdiv (wrap64 (Int.tdiv (wrap64 ((wrap64 ((wrap64 (t131 - (wrap64 (Int.tdiv t131 1460)))) + (wrap64 (Int.tdiv t131 36524)))) - (wrap64 (Int.tdiv t131 146096)))) 365)) 100)))))))) + 2)) 153)) + 2)) 12) + 1)), .int .i64 0]) ?_ 2 _ rfl; (with_reducible repeat first | apply blk_drewN | apply blk_drew | apply blk_alloc); refine blk_put (cs := #[.int .i64 (wrap64 ((wrap64 ((wrap64 (400 * t130)) + (wrap64 (Int.tdiv (wrap64 ((wrap64 ((wrap64 (t131 - (wrap64 (Int.tdiv t131 1460)))) + (wrap64 (Int.tdiv t131 36524)))) - (wrap64 (Int.tdiv t131 146096)))) 365)))) + (wrap64 (Int.tdiv (wrap64 (Int.tdiv (wrap64 ((wrap64 (5 * (wrap64 (t131 - (wrap64 ((wrap64 ((wrap64 (365 * (wrap64 (Int.tdiv (wrap64 ((wrap64 ((wrap64 (t131 - (wrap64 (Int.tdiv t131 1460)))) + (wrap64 (Int.tdiv t131 36524)))) - (wrap64 (Int.tdiv t131 146096)))) 365)))) + (wrap64 (Int.tdiv (wrap64 (Int.tdiv (wrap64 ((wrap64 ((wrap64 (t131 - (wrap64 (Int.tdiv t131 1460)))) + (wrap64 (Int.tdiv t131 36524)))) - (wrap64 (Int.tdiv t131 146096)))) 365)) 4)))) - (wrap64 (Int.tdiv (wrap64 (Int.tdiv (wrap64 ((wrap64 ((wrap64 (t131 - (wrap64 (Int.tdiv t131 1460)))) + (wrap64 (Int.tdiv t131 36524)))) - (wrap64 (Int.tdiv t131 146096)))) 365)) 100)))))))) + 2)) 153)) 10)))), .int .i64 0, .int .i64 0]) ?_ 1 _ rfl; (with_reducible repeat first | apply blk_drewN | apply blk_drew | apply blk_alloc); refine blk_put (cs := #[.int .i64 0, .int .i64 0, .int .i64 0]) ?_ 0 _ rfl; (with_reducible repeat first | apply blk_drewN | apply blk_drew | apply blk_alloc); exact BK126.out) Tryz.underlying26 rfl (by kernel_rfl)) rfl ?_
      exact en_
     ·rw [if_neg (show ¬ (some q136).isNone = true by simp)] at H
      try dsimp only [Option.getD_some] at H
      try simp only [errW_none, errW_some]
      simp only [Option.some.injEq, Prod.mk.injEq] at H; obtain ⟨rfl, rfl, rfl, rfl⟩ := H
      go_wp2_with (first | ((with_reducible refine gate_dst (N := 10) rfl ?_); refine be_ (N := 10) (cs := #[.int .i64 0, .int .i64 0, .int .i64 0]) (t := 26) ?_; intro gb134 hg w15 hbox hb; have BK134 := Aside0.mk hbox; have GW134 := Aside0.mk (sz_ hg : w.heap.size ≤ gb134); have GE134 := GW134; have NB126_134 := Aside0.mk ((by rw [hg]; exact Nat.ne_of_lt (blk_lt (g := gb126) (o := .cells #[.int .i64 0, .int .i64 0, .int .i64 0] 26 (0, 0)) bk_) : gb126 ≠ gb134)); have NB134_126 := Aside0.mk ((by rw [hg]; exact Nat.ne_of_gt (blk_lt (g := gb126) (o := .cells #[.int .i64 0, .int .i64 0, .int .i64 0] 26 (0, 0)) bk_) : gb134 ≠ gb126)); replace BK126 := bb_ BK126.out hb; replace HB := bs_ hb; clear hb hbox hg; have hnb16 := NB134_126.out; have hnc16 := NB126_134.out; have hcz17_0 : w15.cell? ⟨gb134, 0, none⟩ = some (.int .i64 0) := (blk_cell BK134.out 0).trans rfl; have hcz17_1 : w15.cell? ⟨gb134, 1, none⟩ = some (.int .i64 0) := (blk_cell BK134.out 1).trans rfl; have hcz17_2 : w15.cell? ⟨gb134, 2, none⟩ = some (.int .i64 0) := (blk_cell BK134.out 2).trans rfl; have hfz17_0 := blk_frozen BK134.out 0; have hfz17_1 := blk_frozen BK134.out 1; have hfz17_2 := blk_frozen BK134.out 2) | ((with_reducible refine gate_callee (f := 22) rfl ?_); refine gd_ (some 79) Tryz.func22 (civil_Check.calls kj3 (wrap64 ((wrap64 ((wrap64 (400 * t130)) + (wrap64 (Int.tdiv (wrap64 ((wrap64 ((wrap64 (t131 - (wrap64 (Int.tdiv t131 1460)))) + (wrap64 (Int.tdiv t131 36524)))) - (wrap64 (Int.tdiv t131 146096)))) 365)))) + (wrap64 (Int.tdiv (wrap64 (Int.tdiv (wrap64 ((wrap64 (5 * (wrap64 (t131 - (wrap64 ((wrap64 ((wrap64 (365 * (wrap64 (Int.tdiv (wrap64 ((wrap64 ((wrap64 (t131 - (wrap64 (Int.tdiv t131 1460)))) + (wrap64 (Int.tdiv t131 36524)))) - (wrap64 (Int.tdiv t131 146096)))) 365)))) + (wrap64 (Int.tdiv (wrap64 (Int.tdiv (wrap64 ((wrap64 ((wrap64 (t131 - (wrap64 (Int.tdiv t131 1460)))) + (wrap64 (Int.tdiv t131 36524)))) - (wrap64 (Int.tdiv t131 146096)))) 365)) 4)))) - (wrap64 (Int.tdiv (wrap64 (Int.tdiv (wrap64 ((wrap64 ((wrap64 (t131 - (wrap64 (Int.tdiv t131 1460)))) + (wrap64 (Int.tdiv t131 36524)))) - (wrap64 (Int.tdiv t131 146096)))) 365)) 100)))))))) + 2)) 153)) 10)))) (wrap64 ((Int.tmod (wrap64 ((wrap64 (Int.tdiv (wrap64 ((wrap64 (5 * (wrap64 (t131 - (wrap64 ((wrap64 ((wrap64 (365 * (wrap64 (Int.tdiv (wrap64 ((wrap64 ((wrap64 (t131 - (wrap64 (Int.tdiv t131 1460)))) + (wrap64 (Int.tdiv t131 36524)))) - (wrap64 (Int.tdiv t131 146096)))) 365)))) + (wrap64 (Int.tdiv (wrap64 (Int.tdiv (wrap64 ((wrap64 ((wrap64 (t131 - (wrap64 (Int.tdiv t131 1460)))) + (wrap64 (Int.tdiv t131 36524)))) - (wrap64 (Int.tdiv t131 146096)))) 365)) 4)))) - (wrap64 (Int.tdiv (wrap64 (Int.tdiv (wrap64 ((wrap64 ((wrap64 (t131 - (wrap64 (Int.tdiv t131 1460)))) + (wrap64 (Int.tdiv t131 36524)))) - (wrap64 (Int.tdiv t131 146096)))) 365)) 100)))))))) + 2)) 153)) + 2)) 12) + 1)) (wrap64 ((wrap64 ((wrap64 (t131 - (wrap64 ((wrap64 ((wrap64 (365 * (wrap64 (Int.tdiv (wrap64 ((wrap64 ((wrap64 (t131 - (wrap64 (Int.tdiv t131 1460)))) + (wrap64 (Int.tdiv t131 36524)))) - (wrap64 (Int.tdiv t131 146096)))) 365)))) + (wrap64 (Int.tdiv (wrap64 (Int.tdiv (wrap64 ((wrap64 ((wrap64 (t131 - (wrap64 (Int.tdiv t131 1460)))) + (wrap64 (Int.tdiv t131 36524)))) - (wrap64 (Int.tdiv t131 146096)))) 365)) 4)))) - (wrap64 (Int.tdiv (wrap64 (Int.tdiv (wrap64 ((wrap64 ((wrap64 (t131 - (wrap64 (Int.tdiv t131 1460)))) + (wrap64 (Int.tdiv t131 36524)))) - (wrap64 (Int.tdiv t131 146096)))) 365)) 100)))))) - (wrap64 (Int.tdiv (wrap64 ((wrap64 (153 * (wrap64 (Int.tdiv (wrap64 ((wrap64 (5 * (wrap64 (t131 - (wrap64 ((wrap64 ((wrap64 (365 * (wrap64 (Int.tdiv (wrap64 ((wrap64 ((wrap64 (t131 - (wrap64 (Int.tdiv t131 1460)))) + (wrap64 (Int.tdiv t131 36524)))) - (wrap64 (Int.tdiv t131 146096)))) 365)))) + (wrap64 (Int.tdiv (wrap64 (Int.tdiv (wrap64 ((wrap64 ((wrap64 (t131 - (wrap64 (Int.tdiv t131 1460)))) + (wrap64 (Int.tdiv t131 36524)))) - (wrap64 (Int.tdiv t131 146096)))) 365)) 4)))) - (wrap64 (Int.tdiv (wrap64 (Int.tdiv (wrap64 ((wrap64 ((wrap64 (t131 - (wrap64 (Int.tdiv t131 1460)))) + (wrap64 (Int.tdiv t131 36524)))) - (wrap64 (Int.tdiv t131 146096)))) 365)) 100)))))))) + 2)) 153)))) + 2)) 5)))) + 1)) (some q136) _ A8.out) ?_; intro w18 hb; replace BK126 := Aside0.mk (blk_below (g := gb126) (o := .cells #[.int .i64 0, .int .i64 0, .int .i64 0] 26 (0, 0)) (by (with_reducible repeat first | apply blk_drewN | apply blk_drew | apply blk_alloc); refine blk_far ?_ NB126_134.out _; (with_reducible repeat first | apply blk_drewN | apply blk_drew | apply blk_alloc); refine blk_far ?_ NB126_134.out _; (with_reducible repeat first | apply blk_drewN | apply blk_drew | apply blk_alloc); refine blk_far ?_ NB126_134.out _; (with_reducible repeat first | apply blk_drewN | apply blk_drew | apply blk_alloc); exact BK126.out) hb); replace BK134 := Aside0.mk (blk_below (g := gb134) (o := .cells #[.int .i64 (wrap64 ((wrap64 ((wrap64 (400 * t130)) + (wrap64 (Int.tdiv (wrap64 ((wrap64 ((wrap64 (t131 - (wrap64 (Int.tdiv t131 1460)))) + (wrap64 (Int.tdiv t131 36524)))) - (wrap64 (Int.tdiv t131 146096)))) 365)))) + (wrap64 (Int.tdiv (wrap64 (Int.tdiv (wrap64 ((wrap64 (5 * (wrap64 (t131 - (wrap64 ((wrap64 ((wrap64 (365 * (wrap64 (Int.tdiv (wrap64 ((wrap64 ((wrap64 (t131 - (wrap64 (Int.tdiv t131 1460)))) + (wrap64 (Int.tdiv t131 36524)))) - (wrap64 (Int.tdiv t131 146096)))) 365)))) + (wrap64 (Int.tdiv (wrap64 (Int.tdiv (wrap64 ((wrap64 ((wrap64 (t131 - (wrap64 (Int.tdiv t131 1460)))) + (wrap64 (Int.tdiv t131 36524)))) - (wrap64 (Int.tdiv t131 146096)))) 365)) 4)))) - (wrap64 (Int.tdiv (wrap64 (Int.tdiv (wrap64 ((wrap64 ((wrap64 (t131 - (wrap64 (Int.tdiv t131 1460)))) + (wrap64 (Int.tdiv t131 36524)))) - (wrap64 (Int.tdiv t131 146096)))) 365)) 100)))))))) + 2)) 153)) 10)))), .int .i64 (wrap64 ((Int.tmod (wrap64 ((wrap64 (Int.tdiv (wrap64 ((wrap64 (5 * (wrap64 (t131 - (wrap64 ((wrap64 ((wrap64 (365 * (wrap64 (Int.tdiv (wrap64 ((wrap64 ((wrap64 (t131 - (wrap64 (Int.tdiv t131 1460)))) + (wrap64 (Int.tdiv t131 36524)))) - (wrap64 (Int.tdiv t131 146096)))) 365)))) + (wrap64 (Int.tdiv (wrap64 (Int.tdiv (wrap64 ((wrap64 ((wrap64 (t131 - (wrap64 (Int.tdiv t131 1460)))) + (wrap64 (Int.tdiv t131 36524)))) - (wrap64 (Int.tdiv t131 146096)))) 365)) 4)))) - (wrap64 (Int.tdiv (wrap64 (Int.tdiv (wrap64 ((wrap64 ((wrap64 (t131 - (wrap64 (Int.tdiv t131 1460)))) + (wrap64 (Int.tdiv t131 36524)))) - (wrap64 (Int.tdiv t131 146096)))) 365)) 100)))))))) + 2)) 153)) + 2)) 12) + 1)), .int .i64 (wrap64 ((wrap64 ((wrap64 (t131 - (wrap64 ((wrap64 ((wrap64 (365 * (wrap64 (Int.tdiv (wrap64 ((wrap64 ((wrap64 (t131 - (wrap64 (Int.tdiv t131 1460)))) + (wrap64 (Int.tdiv t131 36524)))) - (wrap64 (Int.tdiv t131 146096)))) 365)))) + (wrap64 (Int.tdiv (wrap64 (Int.tdiv (wrap64 ((wrap64 ((wrap64 (t131 - (wrap64 (Int.tdiv t131 1460)))) + (wrap64 (Int.tdiv t131 36524)))) - (wrap64 (Int.tdiv t131 146096)))) 365)) 4)))) - (wrap64 (Int.tdiv (wrap64 (Int.tdiv (wrap64 ((wrap64 ((wrap64 (t131 - (wrap64 (Int.tdiv t131 1460)))) + (wrap64 (Int.tdiv t131 36524)))) - (wrap64 (Int.tdiv t131 146096)))) 365)) 100)))))) - (wrap64 (Int.tdiv (wrap64 ((wrap64 (153 * (wrap64 (Int.tdiv (wrap64 ((wrap64 (5 * (wrap64 (t131 - (wrap64 ((wrap64 ((wrap64 (365 * (wrap64 (Int.tdiv (wrap64 ((wrap64 ((wrap64 (t131 - (wrap64 (Int.tdiv t131 1460)))) + (wrap64 (Int.tdiv t131 36524)))) - (wrap64 (Int.tdiv t131 146096)))) 365)))) + (wrap64 (Int.tdiv (wrap64 (Int.tdiv (wrap64 ((wrap64 ((wrap64 (t131 - (wrap64 (Int.tdiv t131 1460)))) + (wrap64 (Int.tdiv t131 36524)))) - (wrap64 (Int.tdiv t131 146096)))) 365)) 4)))) - (wrap64 (Int.tdiv (wrap64 (Int.tdiv (wrap64 ((wrap64 ((wrap64 (t131 - (wrap64 (Int.tdiv t131 1460)))) + (wrap64 (Int.tdiv t131 36524)))) - (wrap64 (Int.tdiv t131 146096)))) 365)) 100)))))))) + 2)) 153)))) + 2)) 5)))) + 1))] 26 (0, 0)) (by (with_reducible repeat first | apply blk_drewN | apply blk_drew | apply blk_alloc); refine blk_put (cs := #[.int .i64 (wrap64 ((wrap64 ((wrap64 (400 * t130)) + (wrap64 (Int.tdiv (wrap64 ((wrap64 ((wrap64 (t131 - (wrap64 (Int.tdiv t131 1460)))) + (wrap64 (Int.tdiv t131 36524)))) - (wrap64 (Int.tdiv t131 146096)))) 365)))) + (wrap64 (Int.tdiv (wrap64 (Int.tdiv (wrap64 ((wrap64 (5 * (wrap64 (t131 - (wrap64 ((wrap64 ((wrap64 (365 * (wrap64 (Int.tdiv (wrap64 ((wrap64 ((wrap64 (t131 - (wrap64 (Int.tdiv t131 1460)))) + (wrap64 (Int.tdiv t131 36524)))) - (wrap64 (Int.tdiv t131 146096)))) 365)))) + (wrap64 (Int.tdiv (wrap64 (Int.tdiv (wrap64 ((wrap64 ((wrap64 (t131 - (wrap64 (Int.tdiv t131 1460)))) + (wrap64 (Int.tdiv t131 36524)))) - (wrap64 (Int.tdiv t131 146096)))) 365)) 4)))) - (wrap64 (Int.tdiv (wrap64 (Int.tdiv (wrap64 ((wrap64 ((wrap64 (t131 - (wrap64 (Int.tdiv t131 1460)))) + (wrap64 (Int.tdiv t131 36524)))) - (wrap64 (Int.tdiv t131 146096)))) 365)) 100)))))))) + 2)) 153)) 10)))), .int .i64 (wrap64 ((Int.tmod (wrap64 ((wrap64 (Int.tdiv (wrap64 ((wrap64 (5 * (wrap64 (t131 - (wrap64 ((wrap64 ((wrap64 (365 * (wrap64 (Int.tdiv (wrap64 ((wrap64 ((wrap64 (t131 - (wrap64 (Int.tdiv t131 1460)))) + (wrap64 (Int.tdiv t131 36524)))) - (wrap64 (Int.tdiv t131 146096)))) 365)))) + (wrap64 (Int.tdiv (wrap64 (Int.tdiv (wrap64 ((wrap64 ((wrap64 (t131 - (wrap64 (Int.tdiv t131 1460)))) + (wrap64 (Int.tdiv t131 36524)))) - (wrap64 (Int.tdiv t131 146096)))) 365)) 4)))) - (wrap64 (Int.tdiv (wrap64 (Int.tdiv (wrap64 ((wrap64 ((wrap64 (t131 - (wrap64 (Int.tdiv t131 1460)))) + (wrap64 (Int.tdiv t131 36524)))) - (wrap64 (Int.tdiv t131 146096)))) 365)) 100)))))))) + 2)) 153)) + 2)) 12) + 1)), .int .i64 0]) ?_ 2 _ rfl; (with_reducible repeat first | apply blk_drewN | apply blk_drew | apply blk_alloc); refine blk_put (cs := #[.int .i64 (wrap64 ((wrap64 ((wrap64 (400 * t130)) + (wrap64 (Int.tdiv (wrap64 ((wrap64 ((wrap64 (t131 - (wrap64 (Int.tdiv t131 1460)))) + (wrap64 (Int.tdiv t131 36524)))) - (wrap64 (Int.tdiv t131 146096)))) 365)))) + (wrap64 (Int.tdiv (wrap64 (Int.tdiv (wrap64 ((wrap64 (5 * (wrap64 (t131 - (wrap64 ((wrap64 ((wrap64 (365 * (wrap64 (Int.tdiv (wrap64 ((wrap64 ((wrap64 (t131 - (wrap64 (Int.tdiv t131 1460)))) + (wrap64 (Int.tdiv t131 36524)))) - (wrap64 (Int.tdiv t131 146096)))) 365)))) + (wrap64 (Int.tdiv (wrap64 (Int.tdiv (wrap64 ((wrap64 ((wrap64 (t131 - (wrap64 (Int.tdiv t131 1460)))) + (wrap64 (Int.tdiv t131 36524)))) - (wrap64 (Int.tdiv t131 146096)))) 365)) 4)))) - (wrap64 (Int.tdiv (wrap64 (Int.tdiv (wrap64 ((wrap64 ((wrap64 (t131 - (wrap64 (Int.tdiv t131 1460)))) + (wrap64 (Int.tdiv t131 36524)))) - (wrap64 (Int.tdiv t131 146096)))) 365)) 100)))))))) + 2)) 153)) 10)))), .int .i64 0, .int .i64 0]) ?_ 1 _ rfl; (with_reducible repeat first | apply blk_drewN | apply blk_drew | apply blk_alloc); refine blk_put (cs := #[.int .i64 0, .int .i64 0, .int .i64 0]) ?_ 0 _ rfl; (with_reducible repeat first | apply blk_drewN | apply blk_drew | apply blk_alloc); exact BK134.out) hb); replace HB := bs_ hb; (try clear hb); (try simp only [errW_none, errW_some]); have hcz19_0 : w18.cell? ⟨gb126, 0, none⟩ = some (.int .i64 0) := (blk_cell BK126.out 0).trans rfl; have hcz19_1 : w18.cell? ⟨gb126, 1, none⟩ = some (.int .i64 0) := (blk_cell BK126.out 1).trans rfl; have hcz19_2 : w18.cell? ⟨gb126, 2, none⟩ = some (.int .i64 0) := (blk_cell BK126.out 2).trans rfl; have hfz19_0 := blk_frozen BK126.out 0; have hfz19_1 := blk_frozen BK126.out 1; have hfz19_2 := blk_frozen BK126.out 2))
      refine bodyPost_ret (results_ct rfl _ _ gb126 26 #[.int .i64 0, .int .i64 0, .int .i64 0] (0, 0) _ rfl (by (with_reducible repeat first | apply blk_drewN | apply blk_drew | apply blk_alloc); refine blk_put (cs := #[.int .i64 0, .int .i64 0, .int .i64 0]) ?_ 2 _ rfl; (with_reducible repeat first | apply blk_drewN | apply blk_drew | apply blk_alloc); refine blk_put (cs := #[.int .i64 0, .int .i64 0, .int .i64 0]) ?_ 1 _ rfl; (with_reducible repeat first | apply blk_drewN | apply blk_drew | apply blk_alloc); refine blk_put (cs := #[.int .i64 0, .int .i64 0, .int .i64 0]) ?_ 0 _ rfl; (with_reducible repeat first | apply blk_drewN | apply blk_drew | apply blk_alloc); exact BK126.out) Tryz.underlying26 rfl (by kernel_rfl)) rfl ?_
      exact en_
 ·rw [if_neg (show ¬ (some q129).isNone = true by simp)] at H
  try dsimp only [Option.getD_some] at H
  try simp only [errW_none, errW_some]
  simp only [Option.some.injEq, Prod.mk.injEq] at H; obtain ⟨rfl, rfl, rfl, rfl⟩ := H
  go_enter Tryz.func17, Tryz.ntmps17
  go_wp2_with (first | ((with_reducible refine gate_dst (N := 2) rfl ?_); refine be_ (N := 2) (cs := #[.int .i64 0, .int .i64 0, .int .i64 0]) (t := 26) ?_; intro gb126 hg w20 hbox hb; have BK126 := Aside0.mk hbox; have GW126 := Aside0.mk (sz_ hg : w.heap.size ≤ gb126); have GE126 := GW126; replace HB := bs_ hb; clear hb hbox hg) | ((with_reducible refine gate_callee (f := 92) rfl ?_); refine gc_ (some 13) Tryz.func92 (num_Add.calls a0 719468 t127 (some q129) _ A2.out) ?_; rintro e w' ⟨rfl, ⟨nd, rfl⟩⟩; refine ⟨_, rfl, ?_⟩; (try simp only [errW_none, errW_some]); (try (rw [drewN_self w20]; generalize hq_ : World.drewN w20 _ = w20; have n0_ : Aside0 (w20.heap[gb126]? = some (.cells #[.int .i64 0, .int .i64 0, .int .i64 0] 26 (0, 0))) := ⟨by rw [← hq_]; exact bk_⟩; have n1_ : Aside0 (Below w.heap.size w w20) := ⟨by rw [← hq_]; exact bl_⟩; clear BK126 HB hq_; have BK126 := n0_; have HB := n1_; clear n0_ n1_; have hczq_BK126_0 : w20.cell? ⟨gb126, 0, none⟩ = some (.int .i64 0) := (blk_cell BK126.out 0).trans rfl; have hfzq_BK126_0 := blk_frozen BK126.out 0; have hczq_BK126_1 : w20.cell? ⟨gb126, 1, none⟩ = some (.int .i64 0) := (blk_cell BK126.out 1).trans rfl; have hfzq_BK126_1 := blk_frozen BK126.out 1; have hczq_BK126_2 : w20.cell? ⟨gb126, 2, none⟩ = some (.int .i64 0) := (blk_cell BK126.out 2).trans rfl; have hfzq_BK126_2 := blk_frozen BK126.out 2)); have hcz21_0 : w20.cell? ⟨gb126, 0, none⟩ = some (.int .i64 0) := (blk_cell BK126.out 0).trans rfl; have hcz21_1 : w20.cell? ⟨gb126, 1, none⟩ = some (.int .i64 0) := (blk_cell BK126.out 1).trans rfl; have hcz21_2 : w20.cell? ⟨gb126, 2, none⟩ = some (.int .i64 0) := (blk_cell BK126.out 2).trans rfl; have hfz21_0 := blk_frozen BK126.out 0; have hfz21_1 := blk_frozen BK126.out 1; have hfz21_2 := blk_frozen BK126.out 2))
  refine bodyPost_ret (results_ct rfl _ _ gb126 26 #[.int .i64 0, .int .i64 0, .int .i64 0] (0, 0) _ rfl (by (with_reducible repeat first | apply blk_drewN | apply blk_drew | apply blk_alloc); refine blk_put (cs := #[.int .i64 0, .int .i64 0, .int .i64 0]) ?_ 2 _ rfl; (with_reducible repeat first | apply blk_drewN | apply blk_drew | apply blk_alloc); refine blk_put (cs := #[.int .i64 0, .int .i64 0, .int .i64 0]) ?_ 1 _ rfl; (with_reducible repeat first | apply blk_drewN | apply blk_drew | apply blk_alloc); refine blk_put (cs := #[.int .i64 0, .int .i64 0, .int .i64 0]) ?_ 0 _ rfl; (with_reducible repeat first | apply blk_drewN | apply blk_drew | apply blk_alloc); exact BK126.out) Tryz.underlying26 rfl (by kernel_rfl)) rfl ?_
  exact en_
end Go.Proofs.YtfjifhkgifefeaaGreatDoor.PA
end

section
namespace Go.Proofs.YtfjifhkgifefeaaGreatDoor.PA
open Giv Go.RowKit YtfjifhkgifefeaaGreatDoorW.PrintWords YtfjifhkgifefeaaGreatDoorW.PrintLast YtfjifhkgifefeaaGreatDoorW.PrintMore
attribute [local go_sem] max2_int min2_int max_two min_two max_three min_three max_four min_four
set_option linter.unusedVariables false
set_option linter.unusedSimpArgs false
def civil_Days.f (k : Nat) (a0_0 : Int) (a0_1 : Int) (a0_2 : Int) : Option (Int × Option Int) := (civil_Check.f k a0_0 a0_1 a0_2).bind fun t116 => (if t116.isNone = true then (if (wrap64 (a0_1 - 3)) < 0 then ((num_Div.f (wrap64 (a0_0 - 1)) 400).bind fun bt118 => (if bt118.2.2.isNone = true then (some (wrap64 ((wrap64 ((wrap64 ((wrap64 ((wrap64 ((wrap64 ((wrap64 ((wrap64 (bt118.1 * 146097)) + (wrap64 (bt118.2.1 * 365)))) + (wrap64 (Int.tdiv bt118.2.1 4)))) - (wrap64 (Int.tdiv bt118.2.1 100)))) + (wrap64 (Int.tdiv (wrap64 ((wrap64 (153 * (wrap64 ((wrap64 (a0_1 - 3)) + 12)))) + 2)) 5)))) + a0_2)) - 1)) - 719468), none)) else (some (0, some (bt118.2.2.getD 0))))) else ((num_Div.f a0_0 400).bind fun bt122 => (if bt122.2.2.isNone = true then (some (wrap64 ((wrap64 ((wrap64 ((wrap64 ((wrap64 ((wrap64 ((wrap64 ((wrap64 (bt122.1 * 146097)) + (wrap64 (bt122.2.1 * 365)))) + (wrap64 (Int.tdiv bt122.2.1 4)))) - (wrap64 (Int.tdiv bt122.2.1 100)))) + (wrap64 (Int.tdiv (wrap64 ((wrap64 (153 * (wrap64 (a0_1 - 3)))) + 2)) 5)))) + a0_2)) - 1)) - 719468), none)) else (some (0, some (bt122.2.2.getD 0)))))) else (some (0, some (t116.getD 0))))
theorem civil_Days.calls (k : Nat) (a0_0 : Int) (a0_1 : Int) (a0_2 : Int) (r1 : Int) (r2 : Option Int) (w : World) (h : civil_Days.f k a0_0 a0_1 a0_2 = some (r1, r2)) :
  Calls Tryz.prog 16 #[.agg #[.int .i64 a0_0, .int .i64 a0_1, .int .i64 a0_2]] w fun e w' => e = .returned (.tuple #[.int .i64 r1, errW r2]) ∧ Below w.heap.size w w' := by
 have hu26 := Tryz.underlying26; have hu28 := Tryz.underlying28; have hu157 := Tryz.underlying157; have HB := Aside0.mk (Below.refl w.heap.size w); have H := h; clear h
 unfold civil_Days.f at H
 replace H := Option.bind_eq_some_iff.mp H; obtain ⟨t116, A20, H⟩ := H; (try dsimp only at H); have A2 := Aside0.mk A20; clear A20
 rcases t116 with _ | q117
 ·rw [if_pos (show (none : Option Int).isNone = true by rfl)] at H
  try dsimp only [Option.getD_some] at H
  try simp only [errW_none, errW_some]
  by_cases c3 : (wrap64 (a0_1 - 3)) < 0
  ·rw [if_pos c3] at H; have c3b0 : decide ((wrap64 (a0_1 - 3)) < 0) = true := decide_eq_true c3; clear c3; replace H := Option.bind_eq_some_iff.mp H; obtain ⟨⟨t118, t119, t120⟩, A40, H⟩ := H; (try dsimp only at H); have A4 := Aside0.mk A40; clear A40
   rcases t120 with _ | q121
   ·rw [if_pos (show (none : Option Int).isNone = true by rfl)] at H
    try dsimp only [Option.getD_some] at H
    try simp only [errW_none, errW_some]
    simp only [Option.some.injEq, Prod.mk.injEq] at H; obtain ⟨rfl, rfl⟩ := H
    go_enter Tryz.func16, Tryz.ntmps16
    go_wp2_with (first | ((with_reducible refine gate_dst (N := 1) rfl ?_); refine be_ (N := 1) (cs := #[.int .i64 a0_0, .int .i64 a0_1, .int .i64 a0_2]) (t := 26) ?_; intro gb115 hg w5 hbox hb; have BK115 := Aside0.mk hbox; have GW115 := Aside0.mk (sz_ hg : w.heap.size ≤ gb115); have GE115 := GW115; replace HB := bs_ hb; clear hb hbox hg; have hcz6_0 : w5.cell? ⟨gb115, 0, none⟩ = some (.int .i64 a0_0) := (blk_cell BK115.out 0).trans rfl; have hcz6_1 : w5.cell? ⟨gb115, 1, none⟩ = some (.int .i64 a0_1) := (blk_cell BK115.out 1).trans rfl; have hcz6_2 : w5.cell? ⟨gb115, 2, none⟩ = some (.int .i64 a0_2) := (blk_cell BK115.out 2).trans rfl; have hfz6_0 := blk_frozen BK115.out 0; have hfz6_1 := blk_frozen BK115.out 1; have hfz6_2 := blk_frozen BK115.out 2) | (go_at_call 22; (with_reducible refine (civil_Check.calls k a0_0 a0_1 a0_2 none _ A2.out).mono ?_); rintro e w7 ⟨rfl, hb⟩; replace BK115 := bb_ BK115.out hb; replace HB := bs_ hb; (try clear hb); (try simp only [errW_none, errW_some]); have hcz8_0 : w7.cell? ⟨gb115, 0, none⟩ = some (.int .i64 a0_0) := (blk_cell BK115.out 0).trans rfl; have hcz8_1 : w7.cell? ⟨gb115, 1, none⟩ = some (.int .i64 a0_1) := (blk_cell BK115.out 1).trans rfl; have hcz8_2 : w7.cell? ⟨gb115, 2, none⟩ = some (.int .i64 a0_2) := (blk_cell BK115.out 2).trans rfl; have hfz8_0 := blk_frozen BK115.out 0; have hfz8_1 := blk_frozen BK115.out 1; have hfz8_2 := blk_frozen BK115.out 2) | (go_at_call 91; (with_reducible refine (num_Div.calls (wrap64 (a0_0 - 1)) 400 t118 t119 none _ A4.out).mono ?_); rintro e w' ⟨rfl, ⟨nd, rfl⟩⟩; (try simp only [errW_none, errW_some]); (try exact dn_)))
    repeat (go_quiet (first | (go_at_call 91; (with_reducible refine (num_Div.calls (wrap64 (a0_0 - 1)) 400 t118 t119 none _ A4.out).mono ?_); rintro e w' ⟨rfl, ⟨nd, rfl⟩⟩; (try simp only [errW_none, errW_some]); (try exact dn_))); try go_wp2_with (first | ((with_reducible refine gate_dst (N := 1) rfl ?_); refine be_ (N := 1) (cs := #[.int .i64 a0_0, .int .i64 a0_1, .int .i64 a0_2]) (t := 26) ?_; intro gb115 hg w5 hbox hb; have BK115 := Aside0.mk hbox; have GW115 := Aside0.mk (sz_ hg : w.heap.size ≤ gb115); have GE115 := GW115; replace HB := bs_ hb; clear hb hbox hg; have hcz6_0 : w5.cell? ⟨gb115, 0, none⟩ = some (.int .i64 a0_0) := (blk_cell BK115.out 0).trans rfl; have hcz6_1 : w5.cell? ⟨gb115, 1, none⟩ = some (.int .i64 a0_1) := (blk_cell BK115.out 1).trans rfl; have hcz6_2 : w5.cell? ⟨gb115, 2, none⟩ = some (.int .i64 a0_2) := (blk_cell BK115.out 2).trans rfl; have hfz6_0 := blk_frozen BK115.out 0; have hfz6_1 := blk_frozen BK115.out 1; have hfz6_2 := blk_frozen BK115.out 2) | (go_at_call 22; (with_reducible refine (civil_Check.calls k a0_0 a0_1 a0_2 none _ A2.out).mono ?_); rintro e w7 ⟨rfl, hb⟩; replace BK115 := bb_ BK115.out hb; replace HB := bs_ hb; (try simp only [errW_none, errW_some]); have hcz8_0 : w7.cell? ⟨gb115, 0, none⟩ = some (.int .i64 a0_0) := (blk_cell BK115.out 0).trans rfl; have hcz8_1 : w7.cell? ⟨gb115, 1, none⟩ = some (.int .i64 a0_1) := (blk_cell BK115.out 1).trans rfl; have hcz8_2 : w7.cell? ⟨gb115, 2, none⟩ = some (.int .i64 a0_2) := (blk_cell BK115.out 2).trans rfl; have hfz8_0 := blk_frozen BK115.out 0; have hfz8_1 := blk_frozen BK115.out 1; have hfz8_2 := blk_frozen BK115.out 2) | (go_at_call 91; (with_reducible refine (num_Div.calls (wrap64 (a0_0 - 1)) 400 t118 t119 none _ A4.out).mono ?_); rintro e w' ⟨rfl, ⟨nd, rfl⟩⟩; (try simp only [errW_none, errW_some]); (try exact dn_))))
    go_ret2
    exact en_
   ·rw [if_neg (show ¬ (some q121).isNone = true by simp)] at H
    try dsimp only [Option.getD_some] at H
    try simp only [errW_none, errW_some]
    simp only [Option.some.injEq, Prod.mk.injEq] at H; obtain ⟨rfl, rfl⟩ := H
    go_enter Tryz.func16, Tryz.ntmps16
    go_wp2_with (first | ((with_reducible refine gate_dst (N := 1) rfl ?_); refine be_ (N := 1) (cs := #[.int .i64 a0_0, .int .i64 a0_1, .int .i64 a0_2]) (t := 26) ?_; intro gb115 hg w9 hbox hb; have BK115 := Aside0.mk hbox; have GW115 := Aside0.mk (sz_ hg : w.heap.size ≤ gb115); have GE115 := GW115; replace HB := bs_ hb; clear hb hbox hg; have hcz10_0 : w9.cell? ⟨gb115, 0, none⟩ = some (.int .i64 a0_0) := (blk_cell BK115.out 0).trans rfl; have hcz10_1 : w9.cell? ⟨gb115, 1, none⟩ = some (.int .i64 a0_1) := (blk_cell BK115.out 1).trans rfl; have hcz10_2 : w9.cell? ⟨gb115, 2, none⟩ = some (.int .i64 a0_2) := (blk_cell BK115.out 2).trans rfl; have hfz10_0 := blk_frozen BK115.out 0; have hfz10_1 := blk_frozen BK115.out 1; have hfz10_2 := blk_frozen BK115.out 2) | (go_at_call 22; (with_reducible refine (civil_Check.calls k a0_0 a0_1 a0_2 none _ A2.out).mono ?_); rintro e w11 ⟨rfl, hb⟩; replace BK115 := bb_ BK115.out hb; replace HB := bs_ hb; (try clear hb); (try simp only [errW_none, errW_some]); have hcz12_0 : w11.cell? ⟨gb115, 0, none⟩ = some (.int .i64 a0_0) := (blk_cell BK115.out 0).trans rfl; have hcz12_1 : w11.cell? ⟨gb115, 1, none⟩ = some (.int .i64 a0_1) := (blk_cell BK115.out 1).trans rfl; have hcz12_2 : w11.cell? ⟨gb115, 2, none⟩ = some (.int .i64 a0_2) := (blk_cell BK115.out 2).trans rfl; have hfz12_0 := blk_frozen BK115.out 0; have hfz12_1 := blk_frozen BK115.out 1; have hfz12_2 := blk_frozen BK115.out 2) | (go_at_call 91; (with_reducible refine (num_Div.calls (wrap64 (a0_0 - 1)) 400 t118 t119 (some q121) _ A4.out).mono ?_); rintro e w' ⟨rfl, ⟨nd, rfl⟩⟩; (try simp only [errW_none, errW_some]); (try exact dn_)))
    repeat (go_quiet (first | (go_at_call 91; (with_reducible refine (num_Div.calls (wrap64 (a0_0 - 1)) 400 t118 t119 (some q121) _ A4.out).mono ?_); rintro e w' ⟨rfl, ⟨nd, rfl⟩⟩; (try simp only [errW_none, errW_some]); (try exact dn_))); try go_wp2_with (first | ((with_reducible refine gate_dst (N := 1) rfl ?_); refine be_ (N := 1) (cs := #[.int .i64 a0_0, .int .i64 a0_1, .int .i64 a0_2]) (t := 26) ?_; intro gb115 hg w9 hbox hb; have BK115 := Aside0.mk hbox; have GW115 := Aside0.mk (sz_ hg : w.heap.size ≤ gb115); have GE115 := GW115; replace HB := bs_ hb; clear hb hbox hg; have hcz10_0 : w9.cell? ⟨gb115, 0, none⟩ = some (.int .i64 a0_0) := (blk_cell BK115.out 0).trans rfl; have hcz10_1 : w9.cell? ⟨gb115, 1, none⟩ = some (.int .i64 a0_1) := (blk_cell BK115.out 1).trans rfl; have hcz10_2 : w9.cell? ⟨gb115, 2, none⟩ = some (.int .i64 a0_2) := (blk_cell BK115.out 2).trans rfl; have hfz10_0 := blk_frozen BK115.out 0; have hfz10_1 := blk_frozen BK115.out 1; have hfz10_2 := blk_frozen BK115.out 2) | (go_at_call 22; (with_reducible refine (civil_Check.calls k a0_0 a0_1 a0_2 none _ A2.out).mono ?_); rintro e w11 ⟨rfl, hb⟩; replace BK115 := bb_ BK115.out hb; replace HB := bs_ hb; (try simp only [errW_none, errW_some]); have hcz12_0 : w11.cell? ⟨gb115, 0, none⟩ = some (.int .i64 a0_0) := (blk_cell BK115.out 0).trans rfl; have hcz12_1 : w11.cell? ⟨gb115, 1, none⟩ = some (.int .i64 a0_1) := (blk_cell BK115.out 1).trans rfl; have hcz12_2 : w11.cell? ⟨gb115, 2, none⟩ = some (.int .i64 a0_2) := (blk_cell BK115.out 2).trans rfl; have hfz12_0 := blk_frozen BK115.out 0; have hfz12_1 := blk_frozen BK115.out 1; have hfz12_2 := blk_frozen BK115.out 2) | (go_at_call 91; (with_reducible refine (num_Div.calls (wrap64 (a0_0 - 1)) 400 t118 t119 (some q121) _ A4.out).mono ?_); rintro e w' ⟨rfl, ⟨nd, rfl⟩⟩; (try simp only [errW_none, errW_some]); (try exact dn_))))
    go_ret2
    exact en_
  ·rw [if_neg c3] at H; have c3b0 : decide ((wrap64 (a0_1 - 3)) < 0) = false := decide_eq_false c3; clear c3; replace H := Option.bind_eq_some_iff.mp H; obtain ⟨⟨t122, t123, t124⟩, A130, H⟩ := H; (try dsimp only at H); have A13 := Aside0.mk A130; clear A130
   rcases t124 with _ | q125
   ·rw [if_pos (show (none : Option Int).isNone = true by rfl)] at H
    try dsimp only [Option.getD_some] at H
    try simp only [errW_none, errW_some]
    simp only [Option.some.injEq, Prod.mk.injEq] at H; obtain ⟨rfl, rfl⟩ := H
    go_enter Tryz.func16, Tryz.ntmps16
    go_wp2_with (first | ((with_reducible refine gate_dst (N := 1) rfl ?_); refine be_ (N := 1) (cs := #[.int .i64 a0_0, .int .i64 a0_1, .int .i64 a0_2]) (t := 26) ?_; intro gb115 hg w14 hbox hb; have BK115 := Aside0.mk hbox; have GW115 := Aside0.mk (sz_ hg : w.heap.size ≤ gb115); have GE115 := GW115; replace HB := bs_ hb; clear hb hbox hg; have hcz15_0 : w14.cell? ⟨gb115, 0, none⟩ = some (.int .i64 a0_0) := (blk_cell BK115.out 0).trans rfl; have hcz15_1 : w14.cell? ⟨gb115, 1, none⟩ = some (.int .i64 a0_1) := (blk_cell BK115.out 1).trans rfl; have hcz15_2 : w14.cell? ⟨gb115, 2, none⟩ = some (.int .i64 a0_2) := (blk_cell BK115.out 2).trans rfl; have hfz15_0 := blk_frozen BK115.out 0; have hfz15_1 := blk_frozen BK115.out 1; have hfz15_2 := blk_frozen BK115.out 2) | (go_at_call 22; (with_reducible refine (civil_Check.calls k a0_0 a0_1 a0_2 none _ A2.out).mono ?_); rintro e w16 ⟨rfl, hb⟩; replace BK115 := bb_ BK115.out hb; replace HB := bs_ hb; (try clear hb); (try simp only [errW_none, errW_some]); have hcz17_0 : w16.cell? ⟨gb115, 0, none⟩ = some (.int .i64 a0_0) := (blk_cell BK115.out 0).trans rfl; have hcz17_1 : w16.cell? ⟨gb115, 1, none⟩ = some (.int .i64 a0_1) := (blk_cell BK115.out 1).trans rfl; have hcz17_2 : w16.cell? ⟨gb115, 2, none⟩ = some (.int .i64 a0_2) := (blk_cell BK115.out 2).trans rfl; have hfz17_0 := blk_frozen BK115.out 0; have hfz17_1 := blk_frozen BK115.out 1; have hfz17_2 := blk_frozen BK115.out 2) | (go_at_call 91; (with_reducible refine (num_Div.calls a0_0 400 t122 t123 none _ A13.out).mono ?_); rintro e w' ⟨rfl, ⟨nd, rfl⟩⟩; (try simp only [errW_none, errW_some]); (try exact dn_)))
    repeat (go_quiet (first | (go_at_call 91; (with_reducible refine (num_Div.calls a0_0 400 t122 t123 none _ A13.out).mono ?_); rintro e w' ⟨rfl, ⟨nd, rfl⟩⟩; (try simp only [errW_none, errW_some]); (try exact dn_))); try go_wp2_with (first | ((with_reducible refine gate_dst (N := 1) rfl ?_); refine be_ (N := 1) (cs := #[.int .i64 a0_0, .int .i64 a0_1, .int .i64 a0_2]) (t := 26) ?_; intro gb115 hg w14 hbox hb; have BK115 := Aside0.mk hbox; have GW115 := Aside0.mk (sz_ hg : w.heap.size ≤ gb115); have GE115 := GW115; replace HB := bs_ hb; clear hb hbox hg; have hcz15_0 : w14.cell? ⟨gb115, 0, none⟩ = some (.int .i64 a0_0) := (blk_cell BK115.out 0).trans rfl; have hcz15_1 : w14.cell? ⟨gb115, 1, none⟩ = some (.int .i64 a0_1) := (blk_cell BK115.out 1).trans rfl; have hcz15_2 : w14.cell? ⟨gb115, 2, none⟩ = some (.int .i64 a0_2) := (blk_cell BK115.out 2).trans rfl; have hfz15_0 := blk_frozen BK115.out 0; have hfz15_1 := blk_frozen BK115.out 1; have hfz15_2 := blk_frozen BK115.out 2) | (go_at_call 22; (with_reducible refine (civil_Check.calls k a0_0 a0_1 a0_2 none _ A2.out).mono ?_); rintro e w16 ⟨rfl, hb⟩; replace BK115 := bb_ BK115.out hb; replace HB := bs_ hb; (try simp only [errW_none, errW_some]); have hcz17_0 : w16.cell? ⟨gb115, 0, none⟩ = some (.int .i64 a0_0) := (blk_cell BK115.out 0).trans rfl; have hcz17_1 : w16.cell? ⟨gb115, 1, none⟩ = some (.int .i64 a0_1) := (blk_cell BK115.out 1).trans rfl; have hcz17_2 : w16.cell? ⟨gb115, 2, none⟩ = some (.int .i64 a0_2) := (blk_cell BK115.out 2).trans rfl; have hfz17_0 := blk_frozen BK115.out 0; have hfz17_1 := blk_frozen BK115.out 1; have hfz17_2 := blk_frozen BK115.out 2) | (go_at_call 91; (with_reducible refine (num_Div.calls a0_0 400 t122 t123 none _ A13.out).mono ?_); rintro e w' ⟨rfl, ⟨nd, rfl⟩⟩; (try simp only [errW_none, errW_some]); (try exact dn_))))
    go_ret2
    exact en_
   ·rw [if_neg (show ¬ (some q125).isNone = true by simp)] at H
    try dsimp only [Option.getD_some] at H
    try simp only [errW_none, errW_some]
    simp only [Option.some.injEq, Prod.mk.injEq] at H; obtain ⟨rfl, rfl⟩ := H
    go_enter Tryz.func16, Tryz.ntmps16
    go_wp2_with (first | ((with_reducible refine gate_dst (N := 1) rfl ?_); refine be_ (N := 1) (cs := #[.int .i64 a0_0, .int .i64 a0_1, .int .i64 a0_2]) (t := 26) ?_; intro gb115 hg w18 hbox hb; have BK115 := Aside0.mk hbox; have GW115 := Aside0.mk (sz_ hg : w.heap.size ≤ gb115); have GE115 := GW115; replace HB := bs_ hb; clear hb hbox hg; have hcz19_0 : w18.cell? ⟨gb115, 0, none⟩ = some (.int .i64 a0_0) := (blk_cell BK115.out 0).trans rfl; have hcz19_1 : w18.cell? ⟨gb115, 1, none⟩ = some (.int .i64 a0_1) := (blk_cell BK115.out 1).trans rfl; have hcz19_2 : w18.cell? ⟨gb115, 2, none⟩ = some (.int .i64 a0_2) := (blk_cell BK115.out 2).trans rfl; have hfz19_0 := blk_frozen BK115.out 0; have hfz19_1 := blk_frozen BK115.out 1; have hfz19_2 := blk_frozen BK115.out 2) | (go_at_call 22; (with_reducible refine (civil_Check.calls k a0_0 a0_1 a0_2 none _ A2.out).mono ?_); rintro e w20 ⟨rfl, hb⟩; replace BK115 := bb_ BK115.out hb; replace HB := bs_ hb; (try clear hb); (try simp only [errW_none, errW_some]); have hcz21_0 : w20.cell? ⟨gb115, 0, none⟩ = some (.int .i64 a0_0) := (blk_cell BK115.out 0).trans rfl; have hcz21_1 : w20.cell? ⟨gb115, 1, none⟩ = some (.int .i64 a0_1) := (blk_cell BK115.out 1).trans rfl; have hcz21_2 : w20.cell? ⟨gb115, 2, none⟩ = some (.int .i64 a0_2) := (blk_cell BK115.out 2).trans rfl; have hfz21_0 := blk_frozen BK115.out 0; have hfz21_1 := blk_frozen BK115.out 1; have hfz21_2 := blk_frozen BK115.out 2) | (go_at_call 91; (with_reducible refine (num_Div.calls a0_0 400 t122 t123 (some q125) _ A13.out).mono ?_); rintro e w' ⟨rfl, ⟨nd, rfl⟩⟩; (try simp only [errW_none, errW_some]); (try exact dn_)))
    repeat (go_quiet (first | (go_at_call 91; (with_reducible refine (num_Div.calls a0_0 400 t122 t123 (some q125) _ A13.out).mono ?_); rintro e w' ⟨rfl, ⟨nd, rfl⟩⟩; (try simp only [errW_none, errW_some]); (try exact dn_))); try go_wp2_with (first | ((with_reducible refine gate_dst (N := 1) rfl ?_); refine be_ (N := 1) (cs := #[.int .i64 a0_0, .int .i64 a0_1, .int .i64 a0_2]) (t := 26) ?_; intro gb115 hg w18 hbox hb; have BK115 := Aside0.mk hbox; have GW115 := Aside0.mk (sz_ hg : w.heap.size ≤ gb115); have GE115 := GW115; replace HB := bs_ hb; clear hb hbox hg; have hcz19_0 : w18.cell? ⟨gb115, 0, none⟩ = some (.int .i64 a0_0) := (blk_cell BK115.out 0).trans rfl; have hcz19_1 : w18.cell? ⟨gb115, 1, none⟩ = some (.int .i64 a0_1) := (blk_cell BK115.out 1).trans rfl; have hcz19_2 : w18.cell? ⟨gb115, 2, none⟩ = some (.int .i64 a0_2) := (blk_cell BK115.out 2).trans rfl; have hfz19_0 := blk_frozen BK115.out 0; have hfz19_1 := blk_frozen BK115.out 1; have hfz19_2 := blk_frozen BK115.out 2) | (go_at_call 22; (with_reducible refine (civil_Check.calls k a0_0 a0_1 a0_2 none _ A2.out).mono ?_); rintro e w20 ⟨rfl, hb⟩; replace BK115 := bb_ BK115.out hb; replace HB := bs_ hb; (try simp only [errW_none, errW_some]); have hcz21_0 : w20.cell? ⟨gb115, 0, none⟩ = some (.int .i64 a0_0) := (blk_cell BK115.out 0).trans rfl; have hcz21_1 : w20.cell? ⟨gb115, 1, none⟩ = some (.int .i64 a0_1) := (blk_cell BK115.out 1).trans rfl; have hcz21_2 : w20.cell? ⟨gb115, 2, none⟩ = some (.int .i64 a0_2) := (blk_cell BK115.out 2).trans rfl; have hfz21_0 := blk_frozen BK115.out 0; have hfz21_1 := blk_frozen BK115.out 1; have hfz21_2 := blk_frozen BK115.out 2) | (go_at_call 91; (with_reducible refine (num_Div.calls a0_0 400 t122 t123 (some q125) _ A13.out).mono ?_); rintro e w' ⟨rfl, ⟨nd, rfl⟩⟩; (try simp only [errW_none, errW_some]); (try exact dn_))))
    go_ret2
    exact en_
 ·rw [if_neg (show ¬ (some q117).isNone = true by simp)] at H
  try dsimp only [Option.getD_some] at H
  try simp only [errW_none, errW_some]
  simp only [Option.some.injEq, Prod.mk.injEq] at H; obtain ⟨rfl, rfl⟩ := H
  go_enter Tryz.func16, Tryz.ntmps16
  go_wp2_with (first | ((with_reducible refine gate_dst (N := 1) rfl ?_); refine be_ (N := 1) (cs := #[.int .i64 a0_0, .int .i64 a0_1, .int .i64 a0_2]) (t := 26) ?_; intro gb115 hg w22 hbox hb; have BK115 := Aside0.mk hbox; have GW115 := Aside0.mk (sz_ hg : w.heap.size ≤ gb115); have GE115 := GW115; replace HB := bs_ hb; clear hb hbox hg; have hcz23_0 : w22.cell? ⟨gb115, 0, none⟩ = some (.int .i64 a0_0) := (blk_cell BK115.out 0).trans rfl; have hcz23_1 : w22.cell? ⟨gb115, 1, none⟩ = some (.int .i64 a0_1) := (blk_cell BK115.out 1).trans rfl; have hcz23_2 : w22.cell? ⟨gb115, 2, none⟩ = some (.int .i64 a0_2) := (blk_cell BK115.out 2).trans rfl; have hfz23_0 := blk_frozen BK115.out 0; have hfz23_1 := blk_frozen BK115.out 1; have hfz23_2 := blk_frozen BK115.out 2) | (go_at_call 22; (with_reducible refine (civil_Check.calls k a0_0 a0_1 a0_2 (some q117) _ A2.out).mono ?_); rintro e w24 ⟨rfl, hb⟩; replace BK115 := bb_ BK115.out hb; replace HB := bs_ hb; (try clear hb); (try simp only [errW_none, errW_some])))
  repeat (go_quiet (fail); try go_wp2_with (first | ((with_reducible refine gate_dst (N := 1) rfl ?_); refine be_ (N := 1) (cs := #[.int .i64 a0_0, .int .i64 a0_1, .int .i64 a0_2]) (t := 26) ?_; intro gb115 hg w22 hbox hb; have BK115 := Aside0.mk hbox; have GW115 := Aside0.mk (sz_ hg : w.heap.size ≤ gb115); have GE115 := GW115; replace HB := bs_ hb; clear hb hbox hg; have hcz23_0 : w22.cell? ⟨gb115, 0, none⟩ = some (.int .i64 a0_0) := (blk_cell BK115.out 0).trans rfl; have hcz23_1 : w22.cell? ⟨gb115, 1, none⟩ = some (.int .i64 a0_1) := (blk_cell BK115.out 1).trans rfl; have hcz23_2 : w22.cell? ⟨gb115, 2, none⟩ = some (.int .i64 a0_2) := (blk_cell BK115.out 2).trans rfl; have hfz23_0 := blk_frozen BK115.out 0; have hfz23_1 := blk_frozen BK115.out 1; have hfz23_2 := blk_frozen BK115.out 2) | (go_at_call 22; (with_reducible refine (civil_Check.calls k a0_0 a0_1 a0_2 (some q117) _ A2.out).mono ?_); rintro e w24 ⟨rfl, hb⟩; replace BK115 := bb_ BK115.out hb; replace HB := bs_ hb; (try clear hb); (try simp only [errW_none, errW_some]))))
  go_ret2
  exact en_
end Go.Proofs.YtfjifhkgifefeaaGreatDoor.PA
end

section
namespace Go.Proofs.YtfjifhkgifefeaaGreatDoor.PA
open Giv Go.RowKit YtfjifhkgifefeaaGreatDoorW.PrintWords YtfjifhkgifefeaaGreatDoorW.PrintLast YtfjifhkgifefeaaGreatDoorW.PrintMore
attribute [local go_sem] max2_int min2_int max_two min_two max_three min_three max_four min_four
set_option linter.unusedVariables false
set_option linter.unusedSimpArgs false
def civil_Weekday.f (a0 : Int) : Option (Int) := (num_Div.f a0 7).bind fun bt145 => (if bt145.2.2.isNone = true then (some (wrap64 ((Int.tmod (wrap64 ((wrap64 (bt145.2.1 + 4)) - 1)) 7) + 1))) else (some 0))
end Go.Proofs.YtfjifhkgifefeaaGreatDoor.PA
end

section
namespace Go.Proofs.YtfjifhkgifefeaaGreatDoor.PA
open Giv Go.RowKit YtfjifhkgifefeaaGreatDoorW.PrintWords YtfjifhkgifefeaaGreatDoorW.PrintLast YtfjifhkgifefeaaGreatDoorW.PrintMore
attribute [local go_sem] max2_int min2_int max_two min_two max_three min_three max_four min_four
set_option linter.unusedVariables false
set_option linter.unusedSimpArgs false
def fuseeref07_Leap.f (a0 : Int) : Option (Bool) := if (Int.tmod a0 400) = 0 then (some true) else (if (Int.tmod a0 4) = 0 then (some ((Int.tmod a0 100) != 0)) else (some false))
theorem fuseeref07_Leap.calls (a0 : Int) (r : Bool) (w : World) (h : fuseeref07_Leap.f a0 = some r) :
  Calls Tryz.prog 21 #[.int .i64 a0] w fun e w' => e = .returned (.bool r) ∧ Drawn0 w w' := by
 have H := h; clear h; replace H : (if (Int.tmod a0 400) = 0 then (some true) else (if (Int.tmod a0 4) = 0 then (some ((Int.tmod a0 100) != 0)) else (some false))) = some r := H
 by_cases c2 : (Int.tmod a0 400) = 0
 ·rw [if_pos c2] at H; have c2b0 : ((Int.tmod a0 400) == 0) = true := beq_iff_eq.mpr c2; have c2b1 : ((Int.tmod a0 400) != 0) = false := bne_eq_false_iff_eq.mpr c2; clear c2
  obtain rfl := Option.some.inj H
  go_enter Tryz.func21, Tryz.ntmps21
  go_wp2
  go_ret
  exact ed_
 ·rw [if_neg c2] at H; have c2b0 : ((Int.tmod a0 400) == 0) = false := beq_eq_false_iff_ne.mpr c2; have c2b1 : ((Int.tmod a0 400) != 0) = true := bne_iff_ne.mpr c2
  by_cases c3 : (Int.tmod a0 4) = 0
  ·rw [if_pos c3] at H; have c3b0 : ((Int.tmod a0 4) == 0) = true := beq_iff_eq.mpr c3; have c3b1 : ((Int.tmod a0 4) != 0) = false := bne_eq_false_iff_eq.mpr c3; clear c3
   obtain rfl := Option.some.inj H
   go_enter Tryz.func21, Tryz.ntmps21
   go_wp2
   go_ret
   exact ed_
  ·rw [if_neg c3] at H; have c3b0 : ((Int.tmod a0 4) == 0) = false := beq_eq_false_iff_ne.mpr c3; have c3b1 : ((Int.tmod a0 4) != 0) = true := bne_iff_ne.mpr c3
   obtain rfl := Option.some.inj H
   go_enter Tryz.func21, Tryz.ntmps21
   go_wp2
   go_ret
   exact ed_
end Go.Proofs.YtfjifhkgifefeaaGreatDoor.PA
end

section
namespace Go.Proofs.YtfjifhkgifefeaaGreatDoor.PA
open Giv Go.RowKit YtfjifhkgifefeaaGreatDoorW.PrintWords YtfjifhkgifefeaaGreatDoorW.PrintLast YtfjifhkgifefeaaGreatDoorW.PrintMore
attribute [local go_sem] max2_int min2_int max_two min_two max_three min_three max_four min_four
set_option linter.unusedVariables false
set_option linter.unusedSimpArgs false
def fuseeref07_Month.j0 : Nat → Int → Int → Bool → Option (Int)
 | 0, _, _, _ => none
 | k + 1, x0, x1, x10 => if x10 = true then (some 0) else (if x1 = 2 then ((fuseeref07_Leap.f x0).bind fun t101 => (if t101 = true then (some 29) else ((some (([31, 28, 31, 30, 31, 30, 31, 31, 30, 31, 30, 31] : List Int) : List Int)).bind fun y102 => (if 0 ≤ (wrap64 (x1 - 1)) then (if (wrap64 (x1 - 1)) < (y102.length : Int) then (some (rd y102 (wrap64 (x1 - 1)))) else (none)) else (none))))) else ((some (([31, 28, 31, 30, 31, 30, 31, 31, 30, 31, 30, 31] : List Int) : List Int)).bind fun y106 => (if 0 ≤ (wrap64 (x1 - 1)) then (if (wrap64 (x1 - 1)) < (y106.length : Int) then (some (rd y106 (wrap64 (x1 - 1)))) else (none)) else (none))))
def fuseeref07_Month.f (k : Nat) (a0 : Int) (a1 : Int) : Option (Int) := if a1 < 1 then (fuseeref07_Month.j0 k a0 a1 true) else (fuseeref07_Month.j0 k a0 a1 (decide (a1 > 12)))
theorem fuseeref07_Month.calls (k : Nat) (a0 : Int) (a1 : Int) (r : Int) (w : World) (h : fuseeref07_Month.f k a0 a1 = some r) :
  Calls Tryz.prog 19 #[.int .i64 a0, .int .i64 a1] w fun e w' => e = .returned (.int .i64 r) ∧ Below w.heap.size w w' := by
 have HB := Aside0.mk (Below.refl w.heap.size w); have H := h; clear h; replace H : (if a1 < 1 then (fuseeref07_Month.j0 k a0 a1 true) else (fuseeref07_Month.j0 k a0 a1 (decide (a1 > 12)))) = some r := H; have HC3 := Aside0.mk H; clear H
 go_enter Tryz.func19, Tryz.ntmps19
 go_upto_region 1 with (fail)
 go_cut [10] (fun v10 wc => ∃ (kq : Nat) (x10_2 : Bool), v10 = .bool x10_2 ∧ Aside0 (fuseeref07_Month.j0 kq a0 a1 x10_2 = some r) ∧ Aside0 (kq ≤ k) ∧ Aside0 (Below w.heap.size w wc))
 case first =>
  have H := HC3.out; clear HC3
  by_cases c4 : a1 < 1
  ·rw [if_pos c4] at H; have c4b0 : decide (a1 < 1) = true := decide_eq_true c4; clear c4
   (first | rw [c4b0] | (simp only [i64_w, i32_w]; rw [c4b0]) | skip)
   have H' := Aside0.mk H; clear H
   go_wp2
   go_meet
   case rel => exact ⟨_, (true), rs_, H', ⟨by first | omega | exact Nat.le_refl _⟩, ⟨bl_⟩⟩
  ·rw [if_neg c4] at H; have c4b0 : decide (a1 < 1) = false := decide_eq_false c4; clear c4
   (first | rw [c4b0] | (simp only [i64_w, i32_w]; rw [c4b0]) | skip)
   have H' := Aside0.mk H; clear H
   go_wp2
   go_meet
   case rel => exact ⟨_, (decide (a1 > 12)), rs_, H', ⟨by first | omega | exact Nat.le_refl _⟩, ⟨bl_⟩⟩
 case rest =>
  clear HC3; (try clear c1); (try clear p2); (try clear c4); (try clear c4b0); obtain ⟨kq, x10_2, rfl, HA, HJ2, HB⟩ := hcut
  cases kq with
  | zero => exact absurd HA.out (by simp [fuseeref07_Month.j0])
  | succ kj2 =>
   have H := HA.out; clear HA; simp only [fuseeref07_Month.j0] at H
   by_cases c5 : x10_2 = true
   ·subst c5
    have H1 : (some 0) = some r := by rw [if_pos rfl] at H; exact H
    clear H; have H := H1; clear H1
    obtain rfl := Option.some.inj H
    go_wp2
    go_ret
    exact en_
   ·replace c5 := Bool.eq_false_iff.mpr c5; subst c5
    have H1 : (if a1 = 2 then ((fuseeref07_Leap.f a0).bind fun t101 => (if t101 = true then (some 29) else ((some (([31, 28, 31, 30, 31, 30, 31, 31, 30, 31, 30, 31] : List Int) : List Int)).bind fun y102 => (if 0 ≤ (wrap64 (a1 - 1)) then (if (wrap64 (a1 - 1)) < (y102.length : Int) then (some (rd y102 (wrap64 (a1 - 1)))) else (none)) else (none))))) else ((some (([31, 28, 31, 30, 31, 30, 31, 31, 30, 31, 30, 31] : List Int) : List Int)).bind fun y106 => (if 0 ≤ (wrap64 (a1 - 1)) then (if (wrap64 (a1 - 1)) < (y106.length : Int) then (some (rd y106 (wrap64 (a1 - 1)))) else (none)) else (none)))) = some r := by rw [if_neg (show ¬ (false = true) by decide)] at H; exact H
    clear H; have H := H1; clear H1
    by_cases c6 : a1 = 2
    ·rw [if_pos c6] at H; have c6b0 : (a1 == 2) = true := beq_iff_eq.mpr c6; have c6b1 : (a1 != 2) = false := bne_eq_false_iff_eq.mpr c6; clear c6; replace H := Option.bind_eq_some_iff.mp H; obtain ⟨t101, A70, H⟩ := H; (try dsimp only at H); have A7 := Aside0.mk A70; clear A70
     by_cases c8 : t101 = true
     ·subst c8
      have H1 : (some 29) = some r := by rw [if_pos rfl] at H; exact H
      clear H; have H := H1; clear H1
      obtain rfl := Option.some.inj H
      go_wp2_with (first | (go_at_call 21; (with_reducible refine (fuseeref07_Leap.calls a0 true _ A7.out).mono ?_); rintro e w' ⟨rfl, ⟨nd, rfl⟩⟩))
      go_ret
      exact en_
     ·replace c8 := Bool.eq_false_iff.mpr c8; subst c8
      have H1 : ((some (([31, 28, 31, 30, 31, 30, 31, 31, 30, 31, 30, 31] : List Int) : List Int)).bind fun y102 => (if 0 ≤ (wrap64 (a1 - 1)) then (if (wrap64 (a1 - 1)) < (y102.length : Int) then (some (rd y102 (wrap64 (a1 - 1)))) else (none)) else (none))) = some r := by rw [if_neg (show ¬ (false = true) by decide)] at H; exact H
      clear H; have H := H1; clear H1
      obtain ⟨y102, hy102⟩ : ∃ y_ : List Int, y_ = (([31, 28, 31, 30, 31, 30, 31, 31, 30, 31, 30, 31] : List Int)) := ⟨_, rfl⟩
      replace H : (if 0 ≤ (wrap64 (a1 - 1)) then (if (wrap64 (a1 - 1)) < (y102.length : Int) then (some (rd y102 (wrap64 (a1 - 1)))) else (none)) else (none)) = some r := by first | (rw [hy102]; with_reducible exact H) | (have H2_ := (Option.bind_some _ _).symm.trans H; rw [hy102]; with_reducible exact H2_) | (have H2_ := (Option.bind_some _ _).symm.trans H; with_reducible exact H2_) | with_reducible exact H | (rw [hy102]; exact H) | exact H
      have Ny102 := Aside0.mk hy102; clear hy102
      obtain ⟨ji9, hji9⟩ : ∃ j_ : Int, (wrap64 (a1 - 1)) = j_ := ⟨_, rfl⟩
      replace H : (if 0 ≤ (ji9) then (if (ji9) < (y102.length : Int) then (some (rd y102 (ji9))) else (none)) else (none)) = some r := by first | (rw [hji9] at H; exact H) | (simp only [hji9] at H ⊢; exact H)
      (try rw [hji9] at A7)
      have hji9w : (IntKind.i64.wrap (a1 - 1)) = ji9 := (i64_w _).trans hji9
      by_cases c10 : 0 ≤ (ji9)
      ·rw [if_pos c10] at H; have c10b0 : decide (0 ≤ (ji9)) = true := decide_eq_true c10; clear c10
       by_cases c11 : (ji9) < (y102.length : Int)
       ·rw [if_pos c11] at H; have c11b0 : decide ((ji9) < (y102.length : Int)) = true := decide_eq_true c11; clear c11
        obtain rfl := Option.some.inj H
        go_wp2_with (first | (go_at_call 21; (with_reducible refine (fuseeref07_Leap.calls a0 false _ A7.out).mono ?_); rintro e w' ⟨rfl, ⟨nd, rfl⟩⟩) | ((with_reducible refine gate_dst (N := 17) rfl ?_); refine Kd.R_lit (Kd.int .i64) _ 3 ?hg (N := 17) ?hd (xs := ([31, 28, 31, 30, 31, 30, 31, 31, 30, 31, 30, 31] : List Int)) (inner := [.int .i64 31, .int .i64 28, .int .i64 31, .int .i64 30, .int .i64 31, .int .i64 30, .int .i64 31, .int .i64 31, .int .i64 30, .int .i64 31, .int .i64 30, .int .i64 31]) (ok := fun _ => True) (okp := fun _ => True) ?hr ?hp (fun _ hk => hk) trivial (Below.refl _ _) (Nat.le_refl _) (by simp) ?_; (case hd => rfl); (case hg => rfl); (case hr => first | (go_simp; done) | (go_simp; rfl)); (case hp => exact (Reps.one (show Kd.M (Kd.int .i64) _ _ _ 31 [.int .i64 31] from rfl) (Reps.one (show Kd.M (Kd.int .i64) _ _ _ 28 [.int .i64 28] from rfl) (Reps.one (show Kd.M (Kd.int .i64) _ _ _ 31 [.int .i64 31] from rfl) (Reps.one (show Kd.M (Kd.int .i64) _ _ _ 30 [.int .i64 30] from rfl) (Reps.one (show Kd.M (Kd.int .i64) _ _ _ 31 [.int .i64 31] from rfl) (Reps.one (show Kd.M (Kd.int .i64) _ _ _ 30 [.int .i64 30] from rfl) (Reps.one (show Kd.M (Kd.int .i64) _ _ _ 31 [.int .i64 31] from rfl) (Reps.one (show Kd.M (Kd.int .i64) _ _ _ 31 [.int .i64 31] from rfl) (Reps.one (show Kd.M (Kd.int .i64) _ _ _ 30 [.int .i64 30] from rfl) (Reps.one (show Kd.M (Kd.int .i64) _ _ _ 31 [.int .i64 31] from rfl) (Reps.one (show Kd.M (Kd.int .i64) _ _ _ 30 [.int .i64 30] from rfl) (Reps.one (show Kd.M (Kd.int .i64) _ _ _ 31 [.int .i64 31] from rfl) (Reps.none _ _)))))))))))))); intro v103 w12 ho13 hb hg_ hnew_; clear hg_ hnew_; (first | rw [← Ny102.out] at ho13 | (simp only [Int.reduceToNat] at ho13; rw [← Ny102.out] at ho13)); have HO104 := Aside0.mk (Kd.R_lower ho13 (below_size bl_)); replace HB := bs_ hb; clear hb ho13; obtain ⟨Ao14, co14, eo14⟩ := Kd.R_slice HO104.out; subst eo14; have p105 : 0 ≤ ((ji9) : Int) := of_decide_eq_true as_; have q105 : (ji9) < (y102.length : Int) := of_decide_eq_true as_; obtain ⟨ad105, e105, hx105_0⟩ := Kd.at_int (Kd.R_reads' HO104.out).2.2 (ji9) p105 q105; cases e105; replace p105 := eq_true p105; replace q105 := eq_true q105))
        go_ret
        exact ⟨by first | rfl | (simp [errW_none, errW_some] <;> rfl) | (simp only [← hji9]; first | rfl | (simp [errW_none, errW_some] <;> rfl)) | (simp [*, errW_none, errW_some] <;> rfl), by repeat (first | (with_reducible first | exact HB.out | apply below_alloc | apply pw_below_drewN | apply below_drew1) | exact HB.out)⟩
       ·rw [if_neg c11] at H; exact absurd H (by simp)
      ·rw [if_neg c10] at H; exact absurd H (by simp)
    ·rw [if_neg c6] at H; have c6b0 : (a1 == 2) = false := beq_eq_false_iff_ne.mpr c6; have c6b1 : (a1 != 2) = true := bne_iff_ne.mpr c6
     obtain ⟨y106, hy106⟩ : ∃ y_ : List Int, y_ = (([31, 28, 31, 30, 31, 30, 31, 31, 30, 31, 30, 31] : List Int)) := ⟨_, rfl⟩
     replace H : (if 0 ≤ (wrap64 (a1 - 1)) then (if (wrap64 (a1 - 1)) < (y106.length : Int) then (some (rd y106 (wrap64 (a1 - 1)))) else (none)) else (none)) = some r := by first | (rw [hy106]; with_reducible exact H) | (have H2_ := (Option.bind_some _ _).symm.trans H; rw [hy106]; with_reducible exact H2_) | (have H2_ := (Option.bind_some _ _).symm.trans H; with_reducible exact H2_) | with_reducible exact H | (rw [hy106]; exact H) | exact H
     have Ny106 := Aside0.mk hy106; clear hy106
     obtain ⟨ji15, hji15⟩ : ∃ j_ : Int, (wrap64 (a1 - 1)) = j_ := ⟨_, rfl⟩
     replace H : (if 0 ≤ (ji15) then (if (ji15) < (y106.length : Int) then (some (rd y106 (ji15))) else (none)) else (none)) = some r := by first | (rw [hji15] at H; exact H) | (simp only [hji15] at H ⊢; exact H)
     have hji15w : (IntKind.i64.wrap (a1 - 1)) = ji15 := (i64_w _).trans hji15
     by_cases c16 : 0 ≤ (ji15)
     ·rw [if_pos c16] at H; have c16b0 : decide (0 ≤ (ji15)) = true := decide_eq_true c16; clear c16
      by_cases c17 : (ji15) < (y106.length : Int)
      ·rw [if_pos c17] at H; have c17b0 : decide ((ji15) < (y106.length : Int)) = true := decide_eq_true c17; clear c17
       obtain rfl := Option.some.inj H
       go_wp2_with (first | ((with_reducible refine gate_dst (N := 17) rfl ?_); refine Kd.R_lit (Kd.int .i64) _ 3 ?hg (N := 17) ?hd (xs := ([31, 28, 31, 30, 31, 30, 31, 31, 30, 31, 30, 31] : List Int)) (inner := [.int .i64 31, .int .i64 28, .int .i64 31, .int .i64 30, .int .i64 31, .int .i64 30, .int .i64 31, .int .i64 31, .int .i64 30, .int .i64 31, .int .i64 30, .int .i64 31]) (ok := fun _ => True) (okp := fun _ => True) ?hr ?hp (fun _ hk => hk) trivial (Below.refl _ _) (Nat.le_refl _) (by simp) ?_; (case hd => rfl); (case hg => rfl); (case hr => first | (go_simp; done) | (go_simp; rfl)); (case hp => exact (Reps.one (show Kd.M (Kd.int .i64) _ _ _ 31 [.int .i64 31] from rfl) (Reps.one (show Kd.M (Kd.int .i64) _ _ _ 28 [.int .i64 28] from rfl) (Reps.one (show Kd.M (Kd.int .i64) _ _ _ 31 [.int .i64 31] from rfl) (Reps.one (show Kd.M (Kd.int .i64) _ _ _ 30 [.int .i64 30] from rfl) (Reps.one (show Kd.M (Kd.int .i64) _ _ _ 31 [.int .i64 31] from rfl) (Reps.one (show Kd.M (Kd.int .i64) _ _ _ 30 [.int .i64 30] from rfl) (Reps.one (show Kd.M (Kd.int .i64) _ _ _ 31 [.int .i64 31] from rfl) (Reps.one (show Kd.M (Kd.int .i64) _ _ _ 31 [.int .i64 31] from rfl) (Reps.one (show Kd.M (Kd.int .i64) _ _ _ 30 [.int .i64 30] from rfl) (Reps.one (show Kd.M (Kd.int .i64) _ _ _ 31 [.int .i64 31] from rfl) (Reps.one (show Kd.M (Kd.int .i64) _ _ _ 30 [.int .i64 30] from rfl) (Reps.one (show Kd.M (Kd.int .i64) _ _ _ 31 [.int .i64 31] from rfl) (Reps.none _ _)))))))))))))); intro v107 w18 ho19 hb hg_ hnew_; clear hg_ hnew_; (first | rw [← Ny106.out] at ho19 | (simp only [Int.reduceToNat] at ho19; rw [← Ny106.out] at ho19)); have HO108 := Aside0.mk (Kd.R_lower ho19 (below_size bl_)); replace HB := bs_ hb; clear hb ho19; obtain ⟨Ao20, co20, eo20⟩ := Kd.R_slice HO108.out; subst eo20; have p109 : 0 ≤ ((ji15) : Int) := of_decide_eq_true as_; have q109 : (ji15) < (y106.length : Int) := of_decide_eq_true as_; obtain ⟨ad109, e109, hx109_0⟩ := Kd.at_int (Kd.R_reads' HO108.out).2.2 (ji15) p109 q109; cases e109; replace p109 := eq_true p109; replace q109 := eq_true q109))
       go_ret
       exact ⟨by first | rfl | (simp [errW_none, errW_some] <;> rfl) | (simp only [← hji15]; first | rfl | (simp [errW_none, errW_some] <;> rfl)) | (simp [*, errW_none, errW_some] <;> rfl), by repeat (first | (with_reducible first | exact HB.out | apply below_alloc | apply pw_below_drewN | apply below_drew1) | exact HB.out)⟩
      ·rw [if_neg c17] at H; exact absurd H (by simp)
     ·rw [if_neg c16] at H; exact absurd H (by simp)
end Go.Proofs.YtfjifhkgifefeaaGreatDoor.PA
end

section
namespace Go.Proofs.YtfjifhkgifefeaaGreatDoor.PA
open Giv Go.RowKit YtfjifhkgifefeaaGreatDoorW.PrintWords YtfjifhkgifefeaaGreatDoorW.PrintLast YtfjifhkgifefeaaGreatDoorW.PrintMore
attribute [local go_sem] max2_int min2_int max_two min_two max_three min_three max_four min_four
set_option linter.unusedVariables false
set_option linter.unusedSimpArgs false
def fuseeref07_May.f (k : Nat) (a0_0 : Int) (a0_1 : Int) (a0_2 : Int) : Option (Bool) := if a0_0 ≥ 1 then (if a0_0 ≤ 9999 then (if a0_1 ≥ 1 then (if a0_1 ≤ 12 then (if a0_2 ≥ 1 then ((fuseeref07_Month.f k a0_0 a0_1).bind fun t111 => (some (decide (a0_2 ≤ t111)))) else (some false)) else (some false)) else (some false)) else (some false)) else (some false)
def fuseeref07_May.T1 : Bool × List (List Nat × List Nat) := (true, [([], []), ([0], [0]), ([1], [1]), ([2], [2]), ([3], [3]), ([4, 3], [3, 4]), ([5, 3], [3, 5]), ([3, 6], [3, 6]), ([7, 3], [7]), ([8], [8]), ([9, 8], [8, 9]), ([10, 8], [8, 10]), ([8, 11], [8, 11]), ([12, 8], [12]), ([13], [13]), ([14, 13], [13, 14]), ([15, 13], [13, 15]), ([13, 16], [13, 16]), ([17, 13], [17]), ([18], [18]), ([19, 18], [18, 19]), ([20, 18], [18, 20]), ([18, 21], [18, 21]), ([22, 18], [22]), ([23], [23]), ([24, 23], [23, 24]), ([23], [23]), ([26, 23], [23, 26]), ([23], [23]), ([28, 23], [23, 28]), ([27, 29, 23, 23], [23, 27, 29]), ([25, 30, 23], [23, 25, 30]), ([23, 31], [23, 31]), ([32, 30, 0, 1, 2, 3, 4, 5, 6, 7, 8, 9, 10, 11, 12, 13, 14, 15, 16, 17, 18, 19, 20, 21, 22, 23, 24, 25, 26, 27, 28, 29, 30, 31, 32], [32])])
def fuseeref07_May.B1 : List Nat := [0, 1, 3, 7, 15, 31, 63, 127, 255, 511, 1023, 2047, 4095, 8191, 16383, 32767, 65535, 131071, 262143, 524287, 1048575, 2097151, 4194303, 8388607, 16777215, 33554431, 16777215, 83886079, 16777215, 285212671, 1023410175, 2147483647, 4294967295, 8589934591]
theorem fuseeref07_May.tab1 : rtab .any (opsOf Tryz.f14 1) = fuseeref07_May.T1 := by kernel_rfl
theorem fuseeref07_May.bits1 : waitsOk fuseeref07_May.T1.2 fuseeref07_May.B1 = true := by kernel_rfl
theorem fuseeref07_May.calls (k : Nat) (a0_0 : Int) (a0_1 : Int) (a0_2 : Int) (r : Bool) (w : World) (h : fuseeref07_May.f k a0_0 a0_1 a0_2 = some r) :
  Calls Tryz.prog 14 #[.agg #[.int .i64 a0_0, .int .i64 a0_1, .int .i64 a0_2]] w fun e w' => e = .returned (.bool r) ∧ Below w.heap.size w w' := by
 have hu23 := Tryz.underlying23; have HB := Aside0.mk (Below.refl w.heap.size w); have H := h; clear h
 unfold fuseeref07_May.f at H
 by_cases c2 : a0_0 ≥ 1
 ·rw [if_pos c2] at H; have c2b0 : decide (1 ≤ a0_0) = true := decide_eq_true c2; clear c2
  by_cases c3 : a0_0 ≤ 9999
  ·rw [if_pos c3] at H; have c3b0 : decide (a0_0 ≤ 9999) = true := decide_eq_true c3; clear c3
   by_cases c4 : a0_1 ≥ 1
   ·rw [if_pos c4] at H; have c4b0 : decide (1 ≤ a0_1) = true := decide_eq_true c4; clear c4
    by_cases c5 : a0_1 ≤ 12
    ·rw [if_pos c5] at H; have c5b0 : decide (a0_1 ≤ 12) = true := decide_eq_true c5; clear c5
     by_cases c6 : a0_2 ≥ 1
     ·rw [if_pos c6] at H; have c6b0 : decide (1 ≤ a0_2) = true := decide_eq_true c6; clear c6; replace H := Option.bind_eq_some_iff.mp H; obtain ⟨t111, A70, H⟩ := H; (try dsimp only at H); have A7 := Aside0.mk A70; clear A70
      obtain rfl := Option.some.inj H
      go_enter Tryz.func14, Tryz.ntmps14
      try go_wp2_with (first | ((with_reducible refine gate_dst (N := 1) rfl ?_); refine be_ (N := 1) (cs := #[.int .i64 a0_0, .int .i64 a0_1, .int .i64 a0_2]) (t := 23) ?_; intro gb110 hg w8 hbox hb; have BK110 := Aside0.mk hbox; have GW110 := Aside0.mk (sz_ hg : w.heap.size ≤ gb110); have GE110 := GW110; replace HB := bs_ hb; clear hb hbox hg))
      have n0_ := Aside0.mk (blk_drew BK110.out); have n1_ := Aside0.mk (below_drew1 HB.out); clear BK110; clear HB; have BK110 := n0_; have HB := n1_; clear n0_ n1_
      refine start_ (n := 34) (S := fun w' => w'.cell? ⟨gb110, 0, none⟩ = some (.int .i64 a0_0) ∧ w'.cell? ⟨gb110, 1, none⟩ = some (.int .i64 a0_1) ∧ w'.cell? ⟨gb110, 2, none⟩ = some (.int .i64 a0_2)) (ds := []) (bq 34 0) (by kernel_rfl) rfl (by kernel_rfl) ⟨(blk_cell BK110.out 0).trans rfl, (blk_cell BK110.out 1).trans rfl, (blk_cell BK110.out 2).trans rfl⟩ (fun hHeld => ?_); refine with_tabW fuseeref07_May.tab1 fuseeref07_May.bits1 (fun HT_ HW_ => ?_)
      generalize w8.drew = w9 at BK110 HB hHeld ⊢
      refine pa 0 (bq 34 1) (some 3) ?_
      refine tu (N := some 4) (v := ?_) (a' := ?_) 1 (bq 34 2) hHeld rfl rfl (take_ofW HT_.out HW_.out (by kernel_rfl)) (fun _ _ _ h => h) (by rfl) ?_ ?_ ?_; rotate_left 2; (rintro w' ⟨s0, s1, s2⟩; go_simp; with_reducible rfl); (simp only [Act.put, List.setIfInBounds_toArray, List.set_cons_zero, List.set_cons_succ, i64_w, i32_w]; rfl)
      refine pa 2 (bq 34 3) (some 5) ?_; refine pa 3 (bq 34 4) (some 6) ?_; refine pa 4 (bq 34 5) (some 7) ?_
      refine tu (N := some 8) (v := ?_) (a' := ?_) 5 (bq 34 6) hHeld rfl rfl (take_ofW HT_.out HW_.out (by kernel_rfl)) (fun _ _ _ h => h) (by rfl) ?_ ?_ ?_; rotate_left 2; (rintro w' ⟨s0, s1, s2⟩; go_simp; with_reducible rfl); (simp only [Act.put, List.setIfInBounds_toArray, List.set_cons_zero, List.set_cons_succ, i64_w, i32_w]; rfl)
      refine pa 6 (bq 34 7) (some 9) ?_; refine pa 7 (bq 34 8) (some 10) ?_; refine pa 8 (bq 34 9) (some 11) ?_; refine pa 9 (bq 34 10) (some 12) ?_
      refine tu (N := some 13) (v := ?_) (a' := ?_) 10 (bq 34 11) hHeld rfl rfl (take_ofW HT_.out HW_.out (by kernel_rfl)) (fun _ _ _ h => h) (by rfl) ?_ ?_ ?_; rotate_left 2; (rintro w' ⟨s0, s1, s2⟩; go_simp; with_reducible rfl); (simp only [Act.put, List.setIfInBounds_toArray, List.set_cons_zero, List.set_cons_succ, i64_w, i32_w]; rfl)
      refine pa 11 (bq 34 12) (some 14) ?_; refine pa 12 (bq 34 13) (some 15) ?_; refine pa 13 (bq 34 14) (some 16) ?_; refine pa 14 (bq 34 15) (some 17) ?_
      refine tu (N := some 18) (v := ?_) (a' := ?_) 15 (bq 34 16) hHeld rfl rfl (take_ofW HT_.out HW_.out (by kernel_rfl)) (fun _ _ _ h => h) (by rfl) ?_ ?_ ?_; rotate_left 2; (rintro w' ⟨s0, s1, s2⟩; go_simp; with_reducible rfl); (simp only [Act.put, List.setIfInBounds_toArray, List.set_cons_zero, List.set_cons_succ, i64_w, i32_w]; rfl)
      refine pa 16 (bq 34 17) (some 19) ?_; refine pa 17 (bq 34 18) (some 20) ?_; refine pa 18 (bq 34 19) (some 21) ?_; refine pa 19 (bq 34 20) (some 22) ?_
      refine tu (N := some 23) (v := ?_) (a' := ?_) 20 (bq 34 21) hHeld rfl rfl (take_ofW HT_.out HW_.out (by kernel_rfl)) (fun _ _ _ h => h) (by rfl) ?_ ?_ ?_; rotate_left 2; (rintro w' ⟨s0, s1, s2⟩; go_simp; with_reducible rfl); (simp only [Act.put, List.setIfInBounds_toArray, List.set_cons_zero, List.set_cons_succ, i64_w, i32_w]; rfl)
      refine pa 21 (bq 34 22) (some 24) ?_; refine pa 22 (bq 34 23) (some 25) ?_; refine pa 23 (bq 34 24) (some 26) ?_; refine pa 24 (bq 34 25) (some 27) ?_; refine pa 26 (bs 34 100663295) (some 29) ?_; refine pa 28 (bs 34 369098751) (some 31) ?_
      refine tu (N := some 28) (v := ?_) (a' := ?_) 25 (bs 34 402653183) hHeld rfl rfl (take_ofW HT_.out HW_.out (by kernel_rfl)) (fun _ _ _ h => h) (by rfl) ?_ ?_ ?_; rotate_left 2; (rintro w' ⟨s0, s1, s2⟩; go_simp; with_reducible rfl); (simp only [Act.put, List.setIfInBounds_toArray, List.set_cons_zero, List.set_cons_succ, i64_w, i32_w]; rfl)
      refine tu (N := some 30) (v := ?_) (a' := ?_) 27 (bq 34 29) hHeld rfl rfl (take_ofW HT_.out HW_.out (by kernel_rfl)) (fun _ _ _ h => h) (by rfl) ?_ ?_ ?_; rotate_left 2; (rintro w' ⟨s0, s1, s2⟩; go_simp; with_reducible rfl); (simp only [Act.put, List.setIfInBounds_toArray, List.set_cons_zero, List.set_cons_succ, i64_w, i32_w]; rfl)
      refine tu (N := some 32) (v := ?_) (a' := ?_) 29 (bq 34 30) hHeld rfl rfl (take_ofW HT_.out HW_.out (by kernel_rfl)) (fun _ _ _ h => h) (by rfl) ?_ ?_ ?_; rotate_left 2; (rintro w' ⟨s0, s1, s2⟩; go_simp; with_reducible rfl); (simp only [Act.put, List.setIfInBounds_toArray, List.set_cons_zero, List.set_cons_succ, i64_w, i32_w]; rfl)
      refine one_ (i := 30) (N := some 33) (bq 34 31) rfl rfl (one_of HT_.out (by kernel_rfl)) (by decide) (fun K hK => ?_)
      refine goes_ Tryz.func19 (by kernel_rfl) rfl #[.int .i64 a0_0, .int .i64 a0_1] (by rfl) rfl rfl ev_ ?_
      with_reducible refine (fuseeref07_Month.calls k a0_0 a0_1 t111 _ A7.out).mono ?_
      rintro e w10 ⟨rfl, hb⟩
      refine ⟨_, rfl, ?_⟩
      have n0_ := Aside0.mk (blk_below (g := gb110) (o := .cells #[.int .i64 a0_0, .int .i64 a0_1, .int .i64 a0_2] 23 (0, 0)) bk_ hb); have n1_ := bs_ hb; clear BK110; clear HB; have BK110 := n0_; have HB := n1_; clear n0_ n1_
      (try clear hb)
      (try clear hb2)
      (try clear hk)
      (try clear hi)
      refine hK.out _ _ ⟨(blk_cell BK110.out 0).trans rfl, (blk_cell BK110.out 1).trans rfl, (blk_cell BK110.out 2).trans rfl⟩ (fun hHeld => ?_)
      clear hK K
      refine norm_ (a' := ?_) ?_ ?_
      rotate_left
      ·show Act.put _ (some 33) _ = _
       simp only [Act.put, List.setIfInBounds_toArray, List.set_cons_zero, List.set_cons_succ, i64_w, i32_w]
       rfl
      refine pa 31 (bq 34 32) (some 34) ?_; refine pa 32 (bq 34 33) (some 35) ?_; refine pa 33 (bq 34 34) (some 2) ?_
      refine done_ (done_of HT_.out (by kernel_rfl)) ?_
      try go_wp2
      go_ret
      exact en_
     ·rw [if_neg c6] at H; have c6b0 : decide (1 ≤ a0_2) = false := decide_eq_false c6; clear c6
      obtain rfl := Option.some.inj H
      go_enter Tryz.func14, Tryz.ntmps14
      try go_wp2_with (first | ((with_reducible refine gate_dst (N := 1) rfl ?_); refine be_ (N := 1) (cs := #[.int .i64 a0_0, .int .i64 a0_1, .int .i64 a0_2]) (t := 23) ?_; intro gb110 hg w11 hbox hb; have BK110 := Aside0.mk hbox; have GW110 := Aside0.mk (sz_ hg : w.heap.size ≤ gb110); have GE110 := GW110; replace HB := bs_ hb; clear hb hbox hg))
      have n0_ := Aside0.mk (blk_drew BK110.out); have n1_ := Aside0.mk (below_drew1 HB.out); clear BK110; clear HB; have BK110 := n0_; have HB := n1_; clear n0_ n1_
      refine start_ (n := 34) (S := fun w' => w'.cell? ⟨gb110, 0, none⟩ = some (.int .i64 a0_0) ∧ w'.cell? ⟨gb110, 1, none⟩ = some (.int .i64 a0_1) ∧ w'.cell? ⟨gb110, 2, none⟩ = some (.int .i64 a0_2)) (ds := []) (bq 34 0) (by kernel_rfl) rfl (by kernel_rfl) ⟨(blk_cell BK110.out 0).trans rfl, (blk_cell BK110.out 1).trans rfl, (blk_cell BK110.out 2).trans rfl⟩ (fun hHeld => ?_); refine with_tabW fuseeref07_May.tab1 fuseeref07_May.bits1 (fun HT_ HW_ => ?_)
      generalize w11.drew = w12 at BK110 HB hHeld ⊢
      refine pa 0 (bq 34 1) (some 3) ?_
      refine tu (N := some 4) (v := ?_) (a' := ?_) 1 (bq 34 2) hHeld rfl rfl (take_ofW HT_.out HW_.out (by kernel_rfl)) (fun _ _ _ h => h) (by rfl) ?_ ?_ ?_; rotate_left 2; (rintro w' ⟨s0, s1, s2⟩; go_simp; with_reducible rfl); (simp only [Act.put, List.setIfInBounds_toArray, List.set_cons_zero, List.set_cons_succ, i64_w, i32_w]; rfl)
      refine pa 2 (bq 34 3) (some 5) ?_; refine pa 3 (bq 34 4) (some 6) ?_; refine pa 4 (bq 34 5) (some 7) ?_
      refine tu (N := some 8) (v := ?_) (a' := ?_) 5 (bq 34 6) hHeld rfl rfl (take_ofW HT_.out HW_.out (by kernel_rfl)) (fun _ _ _ h => h) (by rfl) ?_ ?_ ?_; rotate_left 2; (rintro w' ⟨s0, s1, s2⟩; go_simp; with_reducible rfl); (simp only [Act.put, List.setIfInBounds_toArray, List.set_cons_zero, List.set_cons_succ, i64_w, i32_w]; rfl)
      refine pa 6 (bq 34 7) (some 9) ?_; refine pa 7 (bq 34 8) (some 10) ?_; refine pa 8 (bq 34 9) (some 11) ?_; refine pa 9 (bq 34 10) (some 12) ?_
      refine tu (N := some 13) (v := ?_) (a' := ?_) 10 (bq 34 11) hHeld rfl rfl (take_ofW HT_.out HW_.out (by kernel_rfl)) (fun _ _ _ h => h) (by rfl) ?_ ?_ ?_; rotate_left 2; (rintro w' ⟨s0, s1, s2⟩; go_simp; with_reducible rfl); (simp only [Act.put, List.setIfInBounds_toArray, List.set_cons_zero, List.set_cons_succ, i64_w, i32_w]; rfl)
      refine pa 11 (bq 34 12) (some 14) ?_; refine pa 12 (bq 34 13) (some 15) ?_; refine pa 13 (bq 34 14) (some 16) ?_; refine pa 14 (bq 34 15) (some 17) ?_
      refine tu (N := some 18) (v := ?_) (a' := ?_) 15 (bq 34 16) hHeld rfl rfl (take_ofW HT_.out HW_.out (by kernel_rfl)) (fun _ _ _ h => h) (by rfl) ?_ ?_ ?_; rotate_left 2; (rintro w' ⟨s0, s1, s2⟩; go_simp; with_reducible rfl); (simp only [Act.put, List.setIfInBounds_toArray, List.set_cons_zero, List.set_cons_succ, i64_w, i32_w]; rfl)
      refine pa 16 (bq 34 17) (some 19) ?_; refine pa 17 (bq 34 18) (some 20) ?_; refine pa 18 (bq 34 19) (some 21) ?_; refine pa 19 (bq 34 20) (some 22) ?_
      refine tu (N := some 23) (v := ?_) (a' := ?_) 20 (bq 34 21) hHeld rfl rfl (take_ofW HT_.out HW_.out (by kernel_rfl)) (fun _ _ _ h => h) (by rfl) ?_ ?_ ?_; rotate_left 2; (rintro w' ⟨s0, s1, s2⟩; go_simp; with_reducible rfl); (simp only [Act.put, List.setIfInBounds_toArray, List.set_cons_zero, List.set_cons_succ, i64_w, i32_w]; rfl)
      refine pa 21 (bq 34 22) (some 24) ?_; refine pa 22 (bq 34 23) (some 25) ?_; refine pa 23 (bq 34 24) (some 26) ?_; refine oa 24 (bq 34 25) (some 27) ?_; refine oa 25 (bq 34 26) (some 28) ?_; refine oa 26 (bq 34 27) (some 29) ?_; refine oa 27 (bq 34 28) (some 30) ?_; refine oa 28 (bq 34 29) (some 31) ?_; refine oa 29 (bq 34 30) (some 32) ?_; refine oa 30 (bq 34 31) (some 33) ?_; refine oa 31 (bq 34 32) (some 34) ?_; refine pa 32 (bq 34 33) (some 35) ?_; refine pa 33 (bq 34 34) (some 2) ?_
      refine done_ (done_of HT_.out (by kernel_rfl)) ?_
      try go_wp2
      go_ret
      exact en_
    ·rw [if_neg c5] at H; have c5b0 : decide (a0_1 ≤ 12) = false := decide_eq_false c5; clear c5
     obtain rfl := Option.some.inj H
     go_enter Tryz.func14, Tryz.ntmps14
     try go_wp2_with (first | ((with_reducible refine gate_dst (N := 1) rfl ?_); refine be_ (N := 1) (cs := #[.int .i64 a0_0, .int .i64 a0_1, .int .i64 a0_2]) (t := 23) ?_; intro gb110 hg w13 hbox hb; have BK110 := Aside0.mk hbox; have GW110 := Aside0.mk (sz_ hg : w.heap.size ≤ gb110); have GE110 := GW110; replace HB := bs_ hb; clear hb hbox hg))
     have n0_ := Aside0.mk (blk_drew BK110.out); have n1_ := Aside0.mk (below_drew1 HB.out); clear BK110; clear HB; have BK110 := n0_; have HB := n1_; clear n0_ n1_
     refine start_ (n := 34) (S := fun w' => w'.cell? ⟨gb110, 0, none⟩ = some (.int .i64 a0_0) ∧ w'.cell? ⟨gb110, 1, none⟩ = some (.int .i64 a0_1) ∧ w'.cell? ⟨gb110, 2, none⟩ = some (.int .i64 a0_2)) (ds := []) (bq 34 0) (by kernel_rfl) rfl (by kernel_rfl) ⟨(blk_cell BK110.out 0).trans rfl, (blk_cell BK110.out 1).trans rfl, (blk_cell BK110.out 2).trans rfl⟩ (fun hHeld => ?_); refine with_tabW fuseeref07_May.tab1 fuseeref07_May.bits1 (fun HT_ HW_ => ?_)
     generalize w13.drew = w14 at BK110 HB hHeld ⊢
     refine pa 0 (bq 34 1) (some 3) ?_
     refine tu (N := some 4) (v := ?_) (a' := ?_) 1 (bq 34 2) hHeld rfl rfl (take_ofW HT_.out HW_.out (by kernel_rfl)) (fun _ _ _ h => h) (by rfl) ?_ ?_ ?_; rotate_left 2; (rintro w' ⟨s0, s1, s2⟩; go_simp; with_reducible rfl); (simp only [Act.put, List.setIfInBounds_toArray, List.set_cons_zero, List.set_cons_succ, i64_w, i32_w]; rfl)
     refine pa 2 (bq 34 3) (some 5) ?_; refine pa 3 (bq 34 4) (some 6) ?_; refine pa 4 (bq 34 5) (some 7) ?_
     refine tu (N := some 8) (v := ?_) (a' := ?_) 5 (bq 34 6) hHeld rfl rfl (take_ofW HT_.out HW_.out (by kernel_rfl)) (fun _ _ _ h => h) (by rfl) ?_ ?_ ?_; rotate_left 2; (rintro w' ⟨s0, s1, s2⟩; go_simp; with_reducible rfl); (simp only [Act.put, List.setIfInBounds_toArray, List.set_cons_zero, List.set_cons_succ, i64_w, i32_w]; rfl)
     refine pa 6 (bq 34 7) (some 9) ?_; refine pa 7 (bq 34 8) (some 10) ?_; refine pa 8 (bq 34 9) (some 11) ?_; refine pa 9 (bq 34 10) (some 12) ?_
     refine tu (N := some 13) (v := ?_) (a' := ?_) 10 (bq 34 11) hHeld rfl rfl (take_ofW HT_.out HW_.out (by kernel_rfl)) (fun _ _ _ h => h) (by rfl) ?_ ?_ ?_; rotate_left 2; (rintro w' ⟨s0, s1, s2⟩; go_simp; with_reducible rfl); (simp only [Act.put, List.setIfInBounds_toArray, List.set_cons_zero, List.set_cons_succ, i64_w, i32_w]; rfl)
     refine pa 11 (bq 34 12) (some 14) ?_; refine pa 12 (bq 34 13) (some 15) ?_; refine pa 13 (bq 34 14) (some 16) ?_; refine pa 14 (bq 34 15) (some 17) ?_
     refine tu (N := some 18) (v := ?_) (a' := ?_) 15 (bq 34 16) hHeld rfl rfl (take_ofW HT_.out HW_.out (by kernel_rfl)) (fun _ _ _ h => h) (by rfl) ?_ ?_ ?_; rotate_left 2; (rintro w' ⟨s0, s1, s2⟩; go_simp; with_reducible rfl); (simp only [Act.put, List.setIfInBounds_toArray, List.set_cons_zero, List.set_cons_succ, i64_w, i32_w]; rfl)
     refine pa 16 (bq 34 17) (some 19) ?_; refine pa 17 (bq 34 18) (some 20) ?_; refine pa 18 (bq 34 19) (some 21) ?_; refine oa 19 (bq 34 20) (some 22) ?_; refine oa 20 (bq 34 21) (some 23) ?_; refine oa 21 (bq 34 22) (some 24) ?_; refine pa 22 (bq 34 23) (some 25) ?_; refine pa 23 (bq 34 24) (some 26) ?_; refine oa 24 (bq 34 25) (some 27) ?_; refine oa 25 (bq 34 26) (some 28) ?_; refine oa 26 (bq 34 27) (some 29) ?_; refine oa 27 (bq 34 28) (some 30) ?_; refine oa 28 (bq 34 29) (some 31) ?_; refine oa 29 (bq 34 30) (some 32) ?_; refine oa 30 (bq 34 31) (some 33) ?_; refine oa 31 (bq 34 32) (some 34) ?_; refine pa 32 (bq 34 33) (some 35) ?_; refine pa 33 (bq 34 34) (some 2) ?_
     refine done_ (done_of HT_.out (by kernel_rfl)) ?_
     try go_wp2
     go_ret
     exact en_
   ·rw [if_neg c4] at H; have c4b0 : decide (1 ≤ a0_1) = false := decide_eq_false c4; clear c4
    obtain rfl := Option.some.inj H
    go_enter Tryz.func14, Tryz.ntmps14
    try go_wp2_with (first | ((with_reducible refine gate_dst (N := 1) rfl ?_); refine be_ (N := 1) (cs := #[.int .i64 a0_0, .int .i64 a0_1, .int .i64 a0_2]) (t := 23) ?_; intro gb110 hg w15 hbox hb; have BK110 := Aside0.mk hbox; have GW110 := Aside0.mk (sz_ hg : w.heap.size ≤ gb110); have GE110 := GW110; replace HB := bs_ hb; clear hb hbox hg))
    have n0_ := Aside0.mk (blk_drew BK110.out); have n1_ := Aside0.mk (below_drew1 HB.out); clear BK110; clear HB; have BK110 := n0_; have HB := n1_; clear n0_ n1_
    refine start_ (n := 34) (S := fun w' => w'.cell? ⟨gb110, 0, none⟩ = some (.int .i64 a0_0) ∧ w'.cell? ⟨gb110, 1, none⟩ = some (.int .i64 a0_1) ∧ w'.cell? ⟨gb110, 2, none⟩ = some (.int .i64 a0_2)) (ds := []) (bq 34 0) (by kernel_rfl) rfl (by kernel_rfl) ⟨(blk_cell BK110.out 0).trans rfl, (blk_cell BK110.out 1).trans rfl, (blk_cell BK110.out 2).trans rfl⟩ (fun hHeld => ?_); refine with_tabW fuseeref07_May.tab1 fuseeref07_May.bits1 (fun HT_ HW_ => ?_)
    generalize w15.drew = w16 at BK110 HB hHeld ⊢
    refine pa 0 (bq 34 1) (some 3) ?_
    refine tu (N := some 4) (v := ?_) (a' := ?_) 1 (bq 34 2) hHeld rfl rfl (take_ofW HT_.out HW_.out (by kernel_rfl)) (fun _ _ _ h => h) (by rfl) ?_ ?_ ?_; rotate_left 2; (rintro w' ⟨s0, s1, s2⟩; go_simp; with_reducible rfl); (simp only [Act.put, List.setIfInBounds_toArray, List.set_cons_zero, List.set_cons_succ, i64_w, i32_w]; rfl)
    refine pa 2 (bq 34 3) (some 5) ?_; refine pa 3 (bq 34 4) (some 6) ?_; refine pa 4 (bq 34 5) (some 7) ?_
    refine tu (N := some 8) (v := ?_) (a' := ?_) 5 (bq 34 6) hHeld rfl rfl (take_ofW HT_.out HW_.out (by kernel_rfl)) (fun _ _ _ h => h) (by rfl) ?_ ?_ ?_; rotate_left 2; (rintro w' ⟨s0, s1, s2⟩; go_simp; with_reducible rfl); (simp only [Act.put, List.setIfInBounds_toArray, List.set_cons_zero, List.set_cons_succ, i64_w, i32_w]; rfl)
    refine pa 6 (bq 34 7) (some 9) ?_; refine pa 7 (bq 34 8) (some 10) ?_; refine pa 8 (bq 34 9) (some 11) ?_; refine pa 9 (bq 34 10) (some 12) ?_
    refine tu (N := some 13) (v := ?_) (a' := ?_) 10 (bq 34 11) hHeld rfl rfl (take_ofW HT_.out HW_.out (by kernel_rfl)) (fun _ _ _ h => h) (by rfl) ?_ ?_ ?_; rotate_left 2; (rintro w' ⟨s0, s1, s2⟩; go_simp; with_reducible rfl); (simp only [Act.put, List.setIfInBounds_toArray, List.set_cons_zero, List.set_cons_succ, i64_w, i32_w]; rfl)
    refine pa 11 (bq 34 12) (some 14) ?_; refine pa 12 (bq 34 13) (some 15) ?_; refine pa 13 (bq 34 14) (some 16) ?_; refine oa 14 (bq 34 15) (some 17) ?_; refine oa 15 (bq 34 16) (some 18) ?_; refine oa 16 (bq 34 17) (some 19) ?_; refine pa 17 (bq 34 18) (some 20) ?_; refine pa 18 (bq 34 19) (some 21) ?_; refine oa 19 (bq 34 20) (some 22) ?_; refine oa 20 (bq 34 21) (some 23) ?_; refine oa 21 (bq 34 22) (some 24) ?_; refine pa 22 (bq 34 23) (some 25) ?_; refine pa 23 (bq 34 24) (some 26) ?_; refine oa 24 (bq 34 25) (some 27) ?_; refine oa 25 (bq 34 26) (some 28) ?_; refine oa 26 (bq 34 27) (some 29) ?_; refine oa 27 (bq 34 28) (some 30) ?_; refine oa 28 (bq 34 29) (some 31) ?_; refine oa 29 (bq 34 30) (some 32) ?_; refine oa 30 (bq 34 31) (some 33) ?_; refine oa 31 (bq 34 32) (some 34) ?_; refine pa 32 (bq 34 33) (some 35) ?_; refine pa 33 (bq 34 34) (some 2) ?_
    refine done_ (done_of HT_.out (by kernel_rfl)) ?_
    try go_wp2
    go_ret
    exact en_
  ·rw [if_neg c3] at H; have c3b0 : decide (a0_0 ≤ 9999) = false := decide_eq_false c3; clear c3
   obtain rfl := Option.some.inj H
   go_enter Tryz.func14, Tryz.ntmps14
   try go_wp2_with (first | ((with_reducible refine gate_dst (N := 1) rfl ?_); refine be_ (N := 1) (cs := #[.int .i64 a0_0, .int .i64 a0_1, .int .i64 a0_2]) (t := 23) ?_; intro gb110 hg w17 hbox hb; have BK110 := Aside0.mk hbox; have GW110 := Aside0.mk (sz_ hg : w.heap.size ≤ gb110); have GE110 := GW110; replace HB := bs_ hb; clear hb hbox hg))
   have n0_ := Aside0.mk (blk_drew BK110.out); have n1_ := Aside0.mk (below_drew1 HB.out); clear BK110; clear HB; have BK110 := n0_; have HB := n1_; clear n0_ n1_
   refine start_ (n := 34) (S := fun w' => w'.cell? ⟨gb110, 0, none⟩ = some (.int .i64 a0_0) ∧ w'.cell? ⟨gb110, 1, none⟩ = some (.int .i64 a0_1) ∧ w'.cell? ⟨gb110, 2, none⟩ = some (.int .i64 a0_2)) (ds := []) (bq 34 0) (by kernel_rfl) rfl (by kernel_rfl) ⟨(blk_cell BK110.out 0).trans rfl, (blk_cell BK110.out 1).trans rfl, (blk_cell BK110.out 2).trans rfl⟩ (fun hHeld => ?_); refine with_tabW fuseeref07_May.tab1 fuseeref07_May.bits1 (fun HT_ HW_ => ?_)
   generalize w17.drew = w18 at BK110 HB hHeld ⊢
   refine pa 0 (bq 34 1) (some 3) ?_
   refine tu (N := some 4) (v := ?_) (a' := ?_) 1 (bq 34 2) hHeld rfl rfl (take_ofW HT_.out HW_.out (by kernel_rfl)) (fun _ _ _ h => h) (by rfl) ?_ ?_ ?_; rotate_left 2; (rintro w' ⟨s0, s1, s2⟩; go_simp; with_reducible rfl); (simp only [Act.put, List.setIfInBounds_toArray, List.set_cons_zero, List.set_cons_succ, i64_w, i32_w]; rfl)
   refine pa 2 (bq 34 3) (some 5) ?_; refine pa 3 (bq 34 4) (some 6) ?_; refine pa 4 (bq 34 5) (some 7) ?_
   refine tu (N := some 8) (v := ?_) (a' := ?_) 5 (bq 34 6) hHeld rfl rfl (take_ofW HT_.out HW_.out (by kernel_rfl)) (fun _ _ _ h => h) (by rfl) ?_ ?_ ?_; rotate_left 2; (rintro w' ⟨s0, s1, s2⟩; go_simp; with_reducible rfl); (simp only [Act.put, List.setIfInBounds_toArray, List.set_cons_zero, List.set_cons_succ, i64_w, i32_w]; rfl)
   refine pa 6 (bq 34 7) (some 9) ?_; refine pa 7 (bq 34 8) (some 10) ?_; refine pa 8 (bq 34 9) (some 11) ?_; refine oa 9 (bq 34 10) (some 12) ?_; refine oa 10 (bq 34 11) (some 13) ?_; refine oa 11 (bq 34 12) (some 14) ?_; refine pa 12 (bq 34 13) (some 15) ?_; refine pa 13 (bq 34 14) (some 16) ?_; refine oa 14 (bq 34 15) (some 17) ?_; refine oa 15 (bq 34 16) (some 18) ?_; refine oa 16 (bq 34 17) (some 19) ?_; refine pa 17 (bq 34 18) (some 20) ?_; refine pa 18 (bq 34 19) (some 21) ?_; refine oa 19 (bq 34 20) (some 22) ?_; refine oa 20 (bq 34 21) (some 23) ?_; refine oa 21 (bq 34 22) (some 24) ?_; refine pa 22 (bq 34 23) (some 25) ?_; refine pa 23 (bq 34 24) (some 26) ?_; refine oa 24 (bq 34 25) (some 27) ?_; refine oa 25 (bq 34 26) (some 28) ?_; refine oa 26 (bq 34 27) (some 29) ?_; refine oa 27 (bq 34 28) (some 30) ?_; refine oa 28 (bq 34 29) (some 31) ?_; refine oa 29 (bq 34 30) (some 32) ?_; refine oa 30 (bq 34 31) (some 33) ?_; refine oa 31 (bq 34 32) (some 34) ?_; refine pa 32 (bq 34 33) (some 35) ?_; refine pa 33 (bq 34 34) (some 2) ?_
   refine done_ (done_of HT_.out (by kernel_rfl)) ?_
   try go_wp2
   go_ret
   exact en_
 ·rw [if_neg c2] at H; have c2b0 : decide (1 ≤ a0_0) = false := decide_eq_false c2; clear c2
  obtain rfl := Option.some.inj H
  go_enter Tryz.func14, Tryz.ntmps14
  try go_wp2_with (first | ((with_reducible refine gate_dst (N := 1) rfl ?_); refine be_ (N := 1) (cs := #[.int .i64 a0_0, .int .i64 a0_1, .int .i64 a0_2]) (t := 23) ?_; intro gb110 hg w19 hbox hb; have BK110 := Aside0.mk hbox; have GW110 := Aside0.mk (sz_ hg : w.heap.size ≤ gb110); have GE110 := GW110; replace HB := bs_ hb; clear hb hbox hg))
  have n0_ := Aside0.mk (blk_drew BK110.out); have n1_ := Aside0.mk (below_drew1 HB.out); clear BK110; clear HB; have BK110 := n0_; have HB := n1_; clear n0_ n1_
  refine start_ (n := 34) (S := fun w' => w'.cell? ⟨gb110, 0, none⟩ = some (.int .i64 a0_0) ∧ w'.cell? ⟨gb110, 1, none⟩ = some (.int .i64 a0_1) ∧ w'.cell? ⟨gb110, 2, none⟩ = some (.int .i64 a0_2)) (ds := []) (bq 34 0) (by kernel_rfl) rfl (by kernel_rfl) ⟨(blk_cell BK110.out 0).trans rfl, (blk_cell BK110.out 1).trans rfl, (blk_cell BK110.out 2).trans rfl⟩ (fun hHeld => ?_); refine with_tabW fuseeref07_May.tab1 fuseeref07_May.bits1 (fun HT_ HW_ => ?_)
  generalize w19.drew = w20 at BK110 HB hHeld ⊢
  refine pa 0 (bq 34 1) (some 3) ?_
  refine tu (N := some 4) (v := ?_) (a' := ?_) 1 (bq 34 2) hHeld rfl rfl (take_ofW HT_.out HW_.out (by kernel_rfl)) (fun _ _ _ h => h) (by rfl) ?_ ?_ ?_; rotate_left 2; (rintro w' ⟨s0, s1, s2⟩; go_simp; with_reducible rfl); (simp only [Act.put, List.setIfInBounds_toArray, List.set_cons_zero, List.set_cons_succ, i64_w, i32_w]; rfl)
  refine pa 2 (bq 34 3) (some 5) ?_; refine pa 3 (bq 34 4) (some 6) ?_; refine oa 4 (bq 34 5) (some 7) ?_; refine oa 5 (bq 34 6) (some 8) ?_; refine oa 6 (bq 34 7) (some 9) ?_; refine pa 7 (bq 34 8) (some 10) ?_; refine pa 8 (bq 34 9) (some 11) ?_; refine oa 9 (bq 34 10) (some 12) ?_; refine oa 10 (bq 34 11) (some 13) ?_; refine oa 11 (bq 34 12) (some 14) ?_; refine pa 12 (bq 34 13) (some 15) ?_; refine pa 13 (bq 34 14) (some 16) ?_; refine oa 14 (bq 34 15) (some 17) ?_; refine oa 15 (bq 34 16) (some 18) ?_; refine oa 16 (bq 34 17) (some 19) ?_; refine pa 17 (bq 34 18) (some 20) ?_; refine pa 18 (bq 34 19) (some 21) ?_; refine oa 19 (bq 34 20) (some 22) ?_; refine oa 20 (bq 34 21) (some 23) ?_; refine oa 21 (bq 34 22) (some 24) ?_; refine pa 22 (bq 34 23) (some 25) ?_; refine pa 23 (bq 34 24) (some 26) ?_; refine oa 24 (bq 34 25) (some 27) ?_; refine oa 25 (bq 34 26) (some 28) ?_; refine oa 26 (bq 34 27) (some 29) ?_; refine oa 27 (bq 34 28) (some 30) ?_; refine oa 28 (bq 34 29) (some 31) ?_; refine oa 29 (bq 34 30) (some 32) ?_; refine oa 30 (bq 34 31) (some 33) ?_; refine oa 31 (bq 34 32) (some 34) ?_; refine pa 32 (bq 34 33) (some 35) ?_; refine pa 33 (bq 34 34) (some 2) ?_
  refine done_ (done_of HT_.out (by kernel_rfl)) ?_
  try go_wp2
  go_ret
  exact en_
end Go.Proofs.YtfjifhkgifefeaaGreatDoor.PA
end

section
namespace Go.Proofs.YtfjifhkgifefeaaGreatDoor.PA
open Giv Go.RowKit YtfjifhkgifefeaaGreatDoorW.PrintWords YtfjifhkgifefeaaGreatDoorW.PrintLast YtfjifhkgifefeaaGreatDoorW.PrintMore
attribute [local go_sem] max2_int min2_int max_two min_two max_three min_three max_four min_four
set_option linter.unusedVariables false
set_option linter.unusedSimpArgs false
def fuseeref07_year.l0 : Nat → Int → Int → Int → Option (Int)
 | 0, _, _, _ => none
 | k + 1, x0, x3, x4 => if x4 < x0 then ((fuseeref07_Leap.f x4).bind fun t170 => (if t170 = true then (fuseeref07_year.l0 k x0 (wrap64 ((wrap64 (x3 + 365)) + 1)) (wrap64 (x4 + 1))) else (fuseeref07_year.l0 k x0 (wrap64 (x3 + 365)) (wrap64 (x4 + 1))))) else (some x3)
def fuseeref07_year.f (k : Nat) (a0 : Int) : Option (Int) := fuseeref07_year.l0 k a0 0 1
theorem fuseeref07_year.calls (k : Nat) (a0 : Int) (r : Int) (w : World) (h : fuseeref07_year.f k a0 = some r) :
  Calls Tryz.prog 94 #[.int .i64 a0] w fun e w' => e = .returned (.int .i64 r) ∧ Drawn0 w w' := by
 have H := h; clear h; replace H : (fuseeref07_year.l0 k a0 0 1) = some r := H; have H' := Aside0.mk H; clear H
 go_enter Tryz.func94, Tryz.ntmps94
 go_wp2
 go_loopg [3, 4] k (fun kq v3 v4 w' => ∃ (x3_1 : Int) (x4_1 : Int), v3 = .int .i64 x3_1 ∧ v4 = .int .i64 x4_1 ∧ Aside0 (fuseeref07_year.l0 kq a0 x3_1 x4_1 = some r) ∧ Aside0 (kq ≤ k) ∧ Drawn0 w w')
 case atStart => exact ⟨(0), (1), rs_, rs_, H', ⟨Nat.le_refl _⟩, by repeat (first | exact Drawn0.refl _ | apply Drawn0.step)⟩
 case round =>
  clear H'; obtain ⟨x3_1, x4_1, rfl, rfl, HA, HK1, ⟨m1, rfl⟩⟩ := hrel
  cases gk with
  | zero => exact absurd HA.out (by simp [fuseeref07_year.l0])
  | succ k1 =>
   have H := HA.out; clear HA; simp only [fuseeref07_year.l0] at H
   by_cases c2 : x4_1 < a0
   ·rw [if_pos c2] at H; have c2b0 : decide (x4_1 < a0) = true := decide_eq_true c2; clear c2; replace H := Option.bind_eq_some_iff.mp H; obtain ⟨t170, A30, H⟩ := H; (try dsimp only at H); have A3 := Aside0.mk A30; clear A30
    by_cases c4 : t170 = true
    ·subst c4
     have H1 : (fuseeref07_year.l0 k1 a0 (wrap64 ((wrap64 (x3_1 + 365)) + 1)) (wrap64 (x4_1 + 1))) = some r := by rw [if_pos rfl] at H; exact H
     clear H; have H := H1; clear H1; have H' := Aside0.mk H; clear H
     go_wp2_with (first | ((with_reducible refine gate_callee (f := 21) rfl ?_); refine gc_ (some 13) Tryz.func21 (fuseeref07_Leap.calls x4_1 true _ A3.out) ?_; rintro e w' ⟨rfl, ⟨nd, rfl⟩⟩; refine ⟨_, rfl, ?_⟩))
     go_roundg k1
     case measure => have := HK1.out; omega
     case rel => exact ⟨(wrap64 ((wrap64 (x3_1 + 365)) + 1)), (wrap64 (x4_1 + 1)), rs_, rs_, H', ⟨by have := HK1.out; omega⟩, by repeat (first | exact Drawn0.refl _ | apply Drawn0.step)⟩
    ·replace c4 := Bool.eq_false_iff.mpr c4; subst c4
     have H1 : (fuseeref07_year.l0 k1 a0 (wrap64 (x3_1 + 365)) (wrap64 (x4_1 + 1))) = some r := by rw [if_neg (show ¬ (false = true) by decide)] at H; exact H
     clear H; have H := H1; clear H1; have H' := Aside0.mk H; clear H
     go_wp2_with (first | ((with_reducible refine gate_callee (f := 21) rfl ?_); refine gc_ (some 13) Tryz.func21 (fuseeref07_Leap.calls x4_1 false _ A3.out) ?_; rintro e w' ⟨rfl, ⟨nd, rfl⟩⟩; refine ⟨_, rfl, ?_⟩))
     go_roundg k1
     case measure => have := HK1.out; omega
     case rel => exact ⟨(wrap64 (x3_1 + 365)), (wrap64 (x4_1 + 1)), rs_, rs_, H', ⟨by have := HK1.out; omega⟩, by repeat (first | exact Drawn0.refl _ | apply Drawn0.step)⟩
   ·rw [if_neg c2] at H; have c2b0 : decide (x4_1 < a0) = false := decide_eq_false c2; clear c2
    obtain rfl := Option.some.inj H
    go_wp2
    go_ret
    exact ed_
end Go.Proofs.YtfjifhkgifefeaaGreatDoor.PA
end

section
namespace Go.Proofs.YtfjifhkgifefeaaGreatDoor.PA
open Giv Go.RowKit YtfjifhkgifefeaaGreatDoorW.PrintWords YtfjifhkgifefeaaGreatDoorW.PrintLast YtfjifhkgifefeaaGreatDoorW.PrintMore
attribute [local go_sem] max2_int min2_int max_two min_two max_three min_three max_four min_four
set_option linter.unusedVariables false
set_option linter.unusedSimpArgs false
def fuseeref07_Days.l0 : Nat → Int → Int → Int → Int → Int → Option (Int)
 | 0, _, _, _, _, _ => none
 | k + 1, x3, x4, x172000, x172001, x172002 => if x4 < x172001 then ((fuseeref07_Month.f k x172000 x4).bind fun t173 => (fuseeref07_Days.l0 k (wrap64 (x3 + t173)) (wrap64 (x4 + 1)) x172000 x172001 x172002)) else (some (wrap64 ((wrap64 ((wrap64 (x3 + x172002)) - 1)) - 719162)))
def fuseeref07_Days.f (k : Nat) (a0_0 : Int) (a0_1 : Int) (a0_2 : Int) : Option (Int) := (fuseeref07_year.f k a0_0).bind fun t172 => (fuseeref07_Days.l0 k t172 1 a0_0 a0_1 a0_2)
theorem fuseeref07_Days.calls (k : Nat) (a0_0 : Int) (a0_1 : Int) (a0_2 : Int) (r : Int) (w : World) (h : fuseeref07_Days.f k a0_0 a0_1 a0_2 = some r) :
  Calls Tryz.prog 24 #[.agg #[.int .i64 a0_0, .int .i64 a0_1, .int .i64 a0_2]] w fun e w' => e = .returned (.int .i64 r) ∧ Below w.heap.size w w' := by
 have hu23 := Tryz.underlying23; have HB := Aside0.mk (Below.refl w.heap.size w); have H := h; clear h; replace H : ((fuseeref07_year.f k a0_0).bind fun t172 => (fuseeref07_Days.l0 k t172 1 a0_0 a0_1 a0_2)) = some r := H; replace H := Option.bind_eq_some_iff.mp H; obtain ⟨t172, A20, H⟩ := H; (try dsimp only at H); have A2 := Aside0.mk A20; clear A20; have H' := Aside0.mk H; clear H
 go_enter Tryz.func24, Tryz.ntmps24
 go_wp2_with (first | ((with_reducible refine gate_dst (N := 1) rfl ?_); refine be_ (N := 1) (cs := #[.int .i64 a0_0, .int .i64 a0_1, .int .i64 a0_2]) (t := 23) ?_; intro gb171 hg w3 hbox hb; have BK171 := Aside0.mk hbox; have GW171 := Aside0.mk (sz_ hg : w.heap.size ≤ gb171); have GE171 := GW171; replace HB := bs_ hb; clear hb hbox hg; have hcz4_0 : w3.cell? ⟨gb171, 0, none⟩ = some (.int .i64 a0_0) := (blk_cell BK171.out 0).trans rfl; have hcz4_1 : w3.cell? ⟨gb171, 1, none⟩ = some (.int .i64 a0_1) := (blk_cell BK171.out 1).trans rfl; have hcz4_2 : w3.cell? ⟨gb171, 2, none⟩ = some (.int .i64 a0_2) := (blk_cell BK171.out 2).trans rfl; have hfz4_0 := blk_frozen BK171.out 0; have hfz4_1 := blk_frozen BK171.out 1; have hfz4_2 := blk_frozen BK171.out 2) | ((with_reducible refine gate_callee (f := 94) rfl ?_); refine gc_ (some 7) Tryz.func94 (fuseeref07_year.calls k a0_0 t172 _ A2.out) ?_; rintro e w' ⟨rfl, ⟨nd, rfl⟩⟩; refine ⟨_, rfl, ?_⟩))
 go_loopg [3, 4] k (fun kq v3 v4 w' => ∃ (x3_1 : Int) (x4_1 : Int), v3 = .int .i64 x3_1 ∧ v4 = .int .i64 x4_1 ∧ Aside0 (fuseeref07_Days.l0 kq x3_1 x4_1 a0_0 a0_1 a0_2 = some r) ∧ Aside0 (kq ≤ k) ∧ Aside0 (w'.heap[gb171]? = some (.cells #[.int .i64 a0_0, .int .i64 a0_1, .int .i64 a0_2] 23 (0, 0))) ∧ Aside0 (Below w.heap.size w w'))
 case atStart => exact ⟨(t172), (1), rs_, rs_, H', ⟨Nat.le_refl _⟩, ⟨bk_⟩, ⟨bl_⟩⟩
 case round =>
  clear H'; (try clear c2); (try clear p2); (try clear hcz4_0); (try clear hcz4_1); (try clear hcz4_2); (try clear hfz4_0); (try clear hfz4_1); (try clear hfz4_2); obtain ⟨x3_1, x4_1, rfl, rfl, HA, HK1, BK171, HB⟩ := hrel
  cases gk with
  | zero => exact absurd HA.out (by simp [fuseeref07_Days.l0])
  | succ k1 =>
   have H := HA.out; clear HA; simp only [fuseeref07_Days.l0] at H
   by_cases c5 : x4_1 < a0_1
   ·rw [if_pos c5] at H; have c5b0 : decide (x4_1 < a0_1) = true := decide_eq_true c5; clear c5; replace H := Option.bind_eq_some_iff.mp H; obtain ⟨t173, A60, H⟩ := H; (try dsimp only at H); have A6 := Aside0.mk A60; clear A60; have H' := Aside0.mk H; clear H; have hcz7_0 : wr.cell? ⟨gb171, 0, none⟩ = some (.int .i64 a0_0) := (blk_cell BK171.out 0).trans rfl; have hcz7_1 : wr.cell? ⟨gb171, 1, none⟩ = some (.int .i64 a0_1) := (blk_cell BK171.out 1).trans rfl; have hcz7_2 : wr.cell? ⟨gb171, 2, none⟩ = some (.int .i64 a0_2) := (blk_cell BK171.out 2).trans rfl; have hfz7_0 := blk_frozen BK171.out 0; have hfz7_1 := blk_frozen BK171.out 1; have hfz7_2 := blk_frozen BK171.out 2
    go_wp2_with (first | ((with_reducible refine gate_callee (f := 19) rfl ?_); refine gd_ (some 18) Tryz.func19 (fuseeref07_Month.calls k1 a0_0 x4_1 t173 _ A6.out) ?_; intro w8 hb; replace BK171 := bb_ BK171.out hb; replace HB := bs_ hb; (try clear hb)))
    go_roundg k1
    case measure => have := HK1.out; omega
    case rel => exact ⟨(wrap64 (x3_1 + t173)), (wrap64 (x4_1 + 1)), rs_, rs_, H', ⟨by have := HK1.out; omega⟩, ⟨bk_⟩, ⟨bl_⟩⟩
   ·rw [if_neg c5] at H; have c5b0 : decide (x4_1 < a0_1) = false := decide_eq_false c5; clear c5
    obtain rfl := Option.some.inj H
    have hcz9_0 : wr.cell? ⟨gb171, 0, none⟩ = some (.int .i64 a0_0) := (blk_cell BK171.out 0).trans rfl; have hcz9_1 : wr.cell? ⟨gb171, 1, none⟩ = some (.int .i64 a0_1) := (blk_cell BK171.out 1).trans rfl; have hcz9_2 : wr.cell? ⟨gb171, 2, none⟩ = some (.int .i64 a0_2) := (blk_cell BK171.out 2).trans rfl; have hfz9_0 := blk_frozen BK171.out 0; have hfz9_1 := blk_frozen BK171.out 1; have hfz9_2 := blk_frozen BK171.out 2
    go_wp2
    go_ret
    exact en_
end Go.Proofs.YtfjifhkgifefeaaGreatDoor.PA
end

section
namespace Go.Proofs.YtfjifhkgifefeaaGreatDoor.PA
open Giv Go.RowKit YtfjifhkgifefeaaGreatDoorW.PrintWords YtfjifhkgifefeaaGreatDoorW.PrintLast YtfjifhkgifefeaaGreatDoorW.PrintMore
attribute [local go_sem] max2_int min2_int max_two min_two max_three min_three max_four min_four
set_option linter.unusedVariables false
set_option linter.unusedSimpArgs false
def fuseeref07_Weekday.f (a0 : Int) : Option (Int) := some (wrap64 ((Int.tmod (wrap64 ((wrap64 ((Int.tmod a0 7) + 7)) + 3)) 7) + 1))
end Go.Proofs.YtfjifhkgifefeaaGreatDoor.PA
end

section
/- What the printed functions of civil days and of the document's civil days answer, in plain words: Month, Check, Days, Of, Weekday. -/
namespace Go.Proofs.YtfjifhkgifefeaaGreatDoor.CivP
open Go.RowKit Go.Proofs.YtfjifhkgifefeaaGreatDoor.PA Go.Proofs.YtfjifhkgifefeaaGreatDoor.CivM Go.Proofs.YtfjifhkgifefeaaGreatDoorW.PrintWords
theorem wid {x : Int} (h0 : -9223372036854775808 ≤ x) (h1 : x ≤ 9223372036854775807) : wrap64 x = x := by unfold wrap64; omega
theorem tdv {a b : Int} (h : 0 ≤ a) : Int.tdiv a b = a / b := Int.tdiv_eq_ediv_of_nonneg h
theorem tmd {a b : Int} (h : 0 ≤ a) : Int.tmod a b = a % b := Int.tmod_eq_emod_of_nonneg h
theorem tm0 (a b : Int) : (Int.tmod a b = 0) = (a % b = 0) := by
  rw [eq_iff_iff, ← Int.dvd_iff_tmod_eq_zero, Int.dvd_iff_emod_eq_zero]
theorem leap (y : Int) : civil_Leap.f y = some (decide (lpI y = 1)) := by
  unfold civil_Leap.f lpI
  simp only [tm0]
  have e : (Int.tmod y 400 == 0) = decide (y % 400 = 0) := by
    rw [Bool.eq_iff_iff]; simp only [beq_iff_eq, decide_eq_true_eq, tm0]
  rw [e]
  by_cases a : y % 4 = 0
  · by_cases b : y % 100 = 0
    · by_cases c : y % 400 = 0 <;> simp [a, b, c]
    · simp [a, b]
  · simp [a]
theorem rleap (y : Int) : fuseeref07_Leap.f y = some (decide (lpI y = 1)) := by
  unfold fuseeref07_Leap.f lpI
  simp only [tm0]
  have e : (Int.tmod y 100 != 0) = decide (y % 100 ≠ 0) := by
    rw [Bool.eq_iff_iff]; simp only [bne_iff_ne, decide_eq_true_eq, ne_eq, tm0]
  rw [e]
  by_cases c : y % 400 = 0
  · have : y % 4 = 0 := by omega
    simp [c, this]
  · by_cases a : y % 4 = 0
    · by_cases b : y % 100 = 0 <;> simp [a, b, c]
    · simp [a, c]
theorem month (k : Nat) (y m : Int) (hk : 2 ≤ k) : civil_Month.f k y m = some (dim y m) := by
  obtain ⟨k, rfl⟩ : ∃ j, k = j + 2 := ⟨k - 2, by omega⟩
  unfold civil_Month.f dim
  by_cases h2 : m = 2
  · subst h2; have := lpI_01 y
    simp [civil_Month.j0, civil_Month.j1, leap]
    by_cases e : lpI y = 1
    · simp [e]
    · simp [e]; omega
  rw [if_neg h2]
  by_cases h4 : m = 4 ∨ m = 6 ∨ m = 9 ∨ m = 11
  · rw [if_pos h4]
    rcases h4 with rfl | rfl | rfl | rfl <;> simp [civil_Month.j0, civil_Month.j1]
  rw [if_neg h4]
  by_cases hr : 1 ≤ m ∧ m ≤ 12
  · rw [if_pos hr]
    have : m = 1 ∨ m = 3 ∨ m = 5 ∨ m = 7 ∨ m = 8 ∨ m = 10 ∨ m = 12 := by omega
    rcases this with rfl | rfl | rfl | rfl | rfl | rfl | rfl <;> simp [civil_Month.j0]
  · rw [if_neg hr, if_neg (by omega), if_neg (by omega), if_neg (by omega), if_neg (by omega), if_neg (by omega), if_neg (by omega)]
    have b : (m == 12) = false := by simp; omega
    rw [b]; simp only [civil_Month.j0, Bool.false_eq_true, if_false]; rw [if_neg (by omega), if_neg (by omega), if_neg (by omega)]
    have b : (m == 11) = false := by simp; omega
    rw [b]; simp only [civil_Month.j1, Bool.false_eq_true, if_false]; rw [if_neg h2]
theorem rmonth (k : Nat) (y m : Int) (hk : 1 ≤ k) : fuseeref07_Month.f k y m = some (dim y m) := by
  obtain ⟨k, rfl⟩ : ∃ j, k = j + 1 := ⟨k - 1, by omega⟩
  unfold fuseeref07_Month.f
  by_cases hr : 1 ≤ m ∧ m ≤ 12
  · rw [if_neg (by omega)]
    have b : decide (m > 12) = false := by simp; omega
    rw [b]; have := lpI_01 y
    have hm : m = 1 ∨ m = 2 ∨ m = 3 ∨ m = 4 ∨ m = 5 ∨ m = 6 ∨ m = 7 ∨ m = 8 ∨ m = 9 ∨ m = 10 ∨ m = 11 ∨ m = 12 := by omega
    rcases hm with rfl | rfl | rfl | rfl | rfl | rfl | rfl | rfl | rfl | rfl | rfl | rfl
    case inr.inl =>
      simp only [fuseeref07_Month.j0, Bool.false_eq_true, if_false, if_true, rleap, Option.bind_some, decide_eq_true_eq, dim]
      by_cases e : lpI y = 1
      · simp [e]
      · have : lpI y = 0 := by omega
        simp [this, wrap64, rd]
    all_goals simp [fuseeref07_Month.j0, dim, wrap64, rd]
  · rw [dim_out y m (by omega)]
    by_cases h1 : m < 1
    · rw [if_pos h1]; rfl
    · rw [if_neg h1]
      have b : decide (m > 12) = true := by simp; omega
      rw [b]; rfl
theorem check (k : Nat) (y m d : Int) (hk : 2 ≤ k) : civil_Check.f k y m d = some (if vld y m d then none else some 1) := by
  have hd := dim_bd y m; have ho := dim_out y m
  unfold civil_Check.f
  rw [month k y m hk]; simp only [Option.bind_some]
  by_cases v : vld y m d
  · rw [if_pos v]
    unfold vld at v
    rw [if_neg (by omega), if_neg (by omega), if_neg (by omega), if_neg (by omega)]
  · rw [if_neg v]
    unfold vld at v
    by_cases a : y < 1
    · rw [if_pos a]
    by_cases b : y > 9999
    · rw [if_neg a, if_pos b]
    by_cases c : d < 1
    · rw [if_neg a, if_neg b, if_pos c]
    rw [if_neg a, if_neg b, if_neg c, if_pos]
    by_cases e : m < 1 ∨ 12 < m
    · rw [ho e]; omega
    · omega
theorem some_dec {P : Prop} [Decidable P] {b : Bool} (h : b = true ↔ P) : some b = some (decide P) := by
  congr 1; rw [Bool.eq_iff_iff, h]; simp
theorem may (k : Nat) (y m d : Int) (hk : 1 ≤ k) : fuseeref07_May.f k y m d = some (decide (vld y m d)) := by
  unfold fuseeref07_May.f
  rw [rmonth k y m hk]; simp only [Option.bind_some]
  have no : (¬ vld y m d) → some false = some (decide (vld y m d)) := fun h => some_dec ⟨(by intro e; cases e), fun e => absurd e h⟩
  by_cases a : y ≥ 1
  · by_cases b : y ≤ 9999
    · by_cases c : m ≥ 1
      · by_cases e : m ≤ 12
        · by_cases f : d ≥ 1
          · rw [if_pos a, if_pos b, if_pos c, if_pos e, if_pos f]
            exact some_dec (by rw [decide_eq_true_eq]; unfold vld; omega)
          · rw [if_pos a, if_pos b, if_pos c, if_pos e, if_neg f]; exact no (by unfold vld; omega)
        · rw [if_pos a, if_pos b, if_pos c, if_neg e]; exact no (by unfold vld; omega)
      · rw [if_pos a, if_pos b, if_neg c]; exact no (by unfold vld; omega)
    · rw [if_pos a, if_neg b]; exact no (by unfold vld; omega)
  · rw [if_neg a]; exact no (by unfold vld; omega)
theorem div_pos {a b : Int} (ha : 0 ≤ a) (ha2 : a ≤ 9223372036854775807) (hb : 1 ≤ b) : num_Div.f a b = some (a / b, a % b, none) := by
  have h1 : 0 ≤ a / b := Int.ediv_nonneg ha (by omega); have h2 : a / b ≤ a := Int.ediv_le_self _ ha; have h3 : 0 ≤ a % b := Int.emod_nonneg _ (by omega)
  unfold num_Div.f
  rw [if_neg (by omega), if_neg (by omega), tdv ha, tmd ha, if_neg (by omega), wid (by omega) (by omega)]
theorem div_any {a b : Int} (ha : -9223372036854775808 ≤ a) (ha2 : a ≤ 9223372036854775807) (hb : 1 < b) (hb2 : b ≤ 9223372036854775807) : num_Div.f a b = some (a / b, a % b, none) := by
  by_cases h : 0 ≤ a
  · exact div_pos h ha2 (by omega)
  obtain ⟨p, rfl⟩ : ∃ p, a = -p := ⟨-a, by omega⟩
  have hp : 0 ≤ p := by omega
  obtain ⟨q, hq⟩ : ∃ q, q = p / b := ⟨_, rfl⟩
  obtain ⟨r, hr⟩ : ∃ r, r = p % b := ⟨_, rfl⟩
  have e2 := Int.emod_add_mul_ediv p b; rw [← hq, ← hr] at e2
  have r0 : 0 ≤ r := by rw [hr]; exact Int.emod_nonneg _ (by omega)
  have r1 : r < b := by rw [hr]; exact Int.emod_lt_of_pos _ (by omega)
  have q0 : 0 ≤ q := by rw [hq]; exact Int.ediv_nonneg hp (by omega)
  have q1 : q + q ≤ p := by
    have : q * 2 ≤ q * b := Int.mul_le_mul_of_nonneg_left (by omega) q0; have c := Int.mul_comm b q
    omega
  unfold num_Div.f
  rw [if_neg (by omega), if_neg (by omega), Int.neg_tdiv, Int.neg_tmod, tdv hp, tmd hp, ← hq, ← hr]
  by_cases z : r = 0
  · have U := (Int.ediv_emod_unique (a := -p) (b := b) (r := 0) (q := -q) (by omega)).2 ⟨by rw [Int.mul_neg]; omega, by omega, by omega⟩; rw [U.1, U.2, z, if_neg (by omega), wid (by omega) (by omega)]
    rfl
  · have U := (Int.ediv_emod_unique (a := -p) (b := b) (r := b - r) (q := -q - 1) (by omega)).2 ⟨by rw [Int.mul_sub, Int.mul_neg]; omega, by omega, by omega⟩; rw [U.1, U.2, if_pos (by omega), wid (x := -q) (by omega) (by omega), wid (by omega) (by omega), wid (by omega) (by omega)]
    congr 3; omega
theorem days (k : Nat) (y m d : Int) (hk : 2 ≤ k) : civil_Days.f k y m d = some (if vld y m d then (num y m d, none) else (0, some 1)) := by
  unfold civil_Days.f
  rw [check k y m d hk]; simp only [Option.bind_some]
  by_cases v : vld y m d
  · rw [if_pos v, if_pos v]; simp only [Option.isNone_none, if_true]; obtain ⟨h1, h2, h3, h4, h5, h6⟩ := v; have hd := dim_bd y m; rw [wid (x := m - 3) (by omega) (by omega)]; have L := lpI_01 y; have E := dby_succ y; have E' := dby_succ (y - 1); rw [show y - 1 + 1 = y by omega] at E'
    by_cases hm : m - 3 < 0
    · rw [if_pos hm, wid (x := y - 1) (by omega) (by omega), div_pos (by omega) (by omega) (by omega)]; simp only [Option.bind_some, Option.isNone_none, if_true]
      have q1 : 0 ≤ (y - 1) / 400 ∧ (y - 1) / 400 ≤ 24 := by omega
      have q2 : 0 ≤ (y - 1) % 400 ∧ (y - 1) % 400 ≤ 399 := by omega
      simp (disch := omega) only [wid, tdv]
      congr 2
      have : m = 1 ∨ m = 2 := by omega
      unfold num dby
      rcases this with rfl | rfl <;> simp [cum] <;> omega
    · rw [if_neg hm, div_pos (by omega) (by omega) (by omega)]; simp only [Option.bind_some, Option.isNone_none, if_true]
      have q1 : 0 ≤ y / 400 ∧ y / 400 ≤ 25 := by omega
      have q2 : 0 ≤ y % 400 ∧ y % 400 ≤ 399 := by omega
      simp (disch := omega) only [wid, tdv]
      congr 2
      have D : dby (y + 1) = 365 * y + y / 4 - y / 100 + y / 400 := by unfold dby; rw [show y + 1 - 1 = y by omega]
      have D2 : y / 400 * 146097 + y % 400 * 365 + y % 400 / 4 - y % 400 / 100 = dby (y + 1) := by rw [D]; omega
      rw [show y / 400 * 146097 + y % 400 * 365 + y % 400 / 4 - y % 400 / 100 = dby (y + 1) from D2]
      have : m = 3 ∨ m = 4 ∨ m = 5 ∨ m = 6 ∨ m = 7 ∨ m = 8 ∨ m = 9 ∨ m = 10 ∨ m = 11 ∨ m = 12 := by omega
      unfold num
      rcases this with rfl | rfl | rfl | rfl | rfl | rfl | rfl | rfl | rfl | rfl <;> simp [cum] <;> omega
  · rw [if_neg v, if_neg v]
    simp
theorem add_ok {a b : Int} (ha : -9223372036854775808 ≤ a) (ha2 : a ≤ 9223372036854775807) (hb : 0 ≤ b) (hb2 : b ≤ 9223372036854775807) :
    num_Add.f a b = some (if a + b ≤ 9223372036854775807 then (a + b, none) else (0, some 2)) := by
  unfold num_Add.f
  have b0 : decide (b < 0) = false := by simp; omega
  rw [b0]
  by_cases h : a + b ≤ 9223372036854775807
  · rw [if_pos h, wid (by omega) h]
    have : decide (a + b < a) = false := by simp; omega
    rw [this]; rfl
  · rw [if_neg h]
    have e : wrap64 (a + b) = a + b - 18446744073709551616 := by unfold wrap64; omega
    have : decide (wrap64 (a + b) < a) = true := by simp; omega
    rw [this]; rfl
/-- Of: the one date of a day, or the error. -/
theorem of_ok (k : Nat) (n : Int) (hk : 3 ≤ k) (h0 : -719162 ≤ n) (h1 : n ≤ 2932896) : ∃ y m d, vld y m d ∧ num y m d = n ∧ civil_Of.f k n = some (y, m, d, none) := by
  obtain ⟨k, rfl⟩ : ∃ j, k = j + 1 := ⟨k - 1, by omega⟩
  obtain ⟨era, hera⟩ : ∃ era, era = (n + 719468) / 146097 := ⟨_, rfl⟩
  obtain ⟨day, hday⟩ : ∃ day, day = (n + 719468) % 146097 := ⟨_, rfl⟩
  have he : 0 ≤ era ∧ era ≤ 24 := by omega
  have hd0 : 0 ≤ day ∧ day < 146097 := by omega
  obtain ⟨c, q, s, t, hd, hc, hc3, hq, hq1, hs, hs3, ht, hx⟩ := dec day hd0.1 hd0.2; have hy := yoe_eq c q s t hc hc3 hq hq1 hs hs3 ht hx; rw [← hd] at hy
  unfold yoe at hy
  have P := of_parts era c q s t ((5 * t + 2) / 153) hc hc3 hq hq1 hs hs3 ht hx rfl
  simp only at P
  obtain ⟨m, hm⟩ : ∃ m, m = (5 * t + 2) / 153 := ⟨_, rfl⟩
  rw [← hm] at P; obtain ⟨p1, p2, p3, p4, p5⟩ := P
  have hn : num (400 * era + (100 * c + 4 * q + s) + m / 10) ((m + 2) % 12 + 1) (t - (153 * m + 2) / 5 + 1) = n := by rw [p5, ← hd]; omega
  have hD := dim_bd (400 * era + (100 * c + 4 * q + s) + m / 10) ((m + 2) % 12 + 1)
  have hv : vld (400 * era + (100 * c + 4 * q + s) + m / 10) ((m + 2) % 12 + 1) (t - (153 * m + 2) / 5 + 1) := by
    refine ⟨?_, ?_, p1, p2, p3, p4⟩
    · rcases Int.lt_or_le (400 * era + (100 * c + 4 * q + s) + m / 10) 1 with c1 | c1
      · exfalso
        have a := cum_le _ _ _ p1 p2 p3 p4; have b := dby_succ (400 * era + (100 * c + 4 * q + s) + m / 10); have e := dby_mono (400 * era + (100 * c + 4 * q + s) + m / 10 + 1) 1 (by omega)
        have e4 : dby 1 = 0 := by decide
        unfold num at hn; omega
      · exact c1
    · rcases Int.lt_or_le 9999 (400 * era + (100 * c + 4 * q + s) + m / 10) with c1 | c1
      · exfalso
        have a := cum_le _ _ _ p1 p2 p3 p4; have e := dby_mono 10000 (400 * era + (100 * c + 4 * q + s) + m / 10) (by omega)
        have e3 : dby 10000 = 3652059 := by decide
        unfold num at hn; omega
      · exact c1
  refine ⟨_, _, _, hv, hn, ?_⟩
  unfold civil_Of.f
  rw [add_ok (by omega) (by omega) (by omega) (by omega), if_pos (by omega)]; simp only [Option.bind_some, Option.isNone_none, if_true]; rw [div_pos (by omega) (by omega) (by omega)]; simp only [Option.bind_some, Option.isNone_none, if_true]; rw [← hera, ← hday]
  have b : decide (era > 9999) = false := by simp; omega
  rw [b]; simp only [civil_Of.j0, Bool.false_eq_true, if_false]
  have w0 : wrap64 ((wrap64 ((wrap64 (day - (wrap64 (Int.tdiv day 1460)))) + (wrap64 (Int.tdiv day 36524)))) - (wrap64 (Int.tdiv day 146096))) = day - day / 1460 + day / 36524 - day / 146096 := by
    simp (disch := omega) only [wid, tdv]
  have nn : 0 ≤ day - day / 1460 + day / 36524 - day / 146096 := by omega
  have w1 : wrap64 (Int.tdiv (day - day / 1460 + day / 36524 - day / 146096) 365) = 100 * c + 4 * q + s := by
    rw [tdv nn, hy, wid (by omega) (by omega)]
  have w2 : wrap64 (day - (wrap64 ((wrap64 ((wrap64 (365 * (100 * c + 4 * q + s))) + (wrap64 (Int.tdiv (100 * c + 4 * q + s) 4)))) - (wrap64 (Int.tdiv (100 * c + 4 * q + s) 100))))) = t := by
    have v4 : (100 * c + 4 * q + s) / 4 = 25 * c + q := by omega
    have v1 : (100 * c + 4 * q + s) / 100 = c := by omega
    simp (disch := omega) only [wid, tdv]
    rw [v4, v1]; omega
  have w3 : wrap64 (Int.tdiv (wrap64 ((wrap64 (5 * t)) + 2)) 153) = m := by
    simp (disch := omega) only [wid, tdv]
    omega
  simp only [w0, w1, w2, w3]
  have hm2 : 0 ≤ m ∧ m ≤ 11 := by omega
  have w4 : wrap64 ((wrap64 ((wrap64 (400 * era)) + (100 * c + 4 * q + s))) + (wrap64 (Int.tdiv m 10))) = 400 * era + (100 * c + 4 * q + s) + m / 10 := by
    simp (disch := omega) only [wid, tdv]
  have w5 : wrap64 ((Int.tmod (wrap64 (m + 2)) 12) + 1) = (m + 2) % 12 + 1 := by
    simp (disch := omega) only [wid, tmd]
  have w6 : wrap64 ((wrap64 (t - (wrap64 (Int.tdiv (wrap64 ((wrap64 (153 * m)) + 2)) 5)))) + 1) = t - (153 * m + 2) / 5 + 1 := by
    simp (disch := omega) only [wid, tdv]
  simp only [w4, w5, w6]; rw [check k _ _ _ (by omega), if_pos hv]
  rfl
end Go.Proofs.YtfjifhkgifefeaaGreatDoor.CivP
end

section
namespace Go.Proofs.YtfjifhkgifefeaaGreatDoor.PA
open Giv Go.RowKit YtfjifhkgifefeaaGreatDoorW.PrintWords YtfjifhkgifefeaaGreatDoorW.PrintLast YtfjifhkgifefeaaGreatDoorW.PrintMore
attribute [local go_sem] max2_int min2_int max_two min_two max_three min_three max_four min_four
set_option linter.unusedVariables false
set_option linter.unusedSimpArgs false
def civil_digits.f (a0 : Int) (a1 : Int) : Option (ByteArray) := (strconv_Itoa.f a0).bind fun t137 => ((strings_Repeat.f (⟨#[48]⟩ : ByteArray) (wrap64 (a1 - (t137.size : Int)))).bind fun t138 => (if t138.size + t137.size ≤ 9223372036854775807 then (some (t138 ++ t137)) else (none)))
theorem civil_digits.calls (a0 : Int) (a1 : Int) (r : ByteArray) (w : World) (hl_ : Laid w) (h : civil_digits.f a0 a1 = some r) :
  Calls Tryz.prog 95 #[.int .i64 a0, .int .i64 a1] w fun e w' => e = .returned (.string r) ∧ Below w.heap.size w w' := by
 have HL := Aside0.mk hl_; clear hl_; have HB := Aside0.mk (Below.refl w.heap.size w); have H := h; clear h
 unfold civil_digits.f at H
 replace H := Option.bind_eq_some_iff.mp H; obtain ⟨t137, A30, H⟩ := H; (try dsimp only at H); have A3 := Aside0.mk A30; clear A30; replace H := Option.bind_eq_some_iff.mp H; obtain ⟨t138, A40, H⟩ := H; (try dsimp only at H); have A4 := Aside0.mk A40; clear A40
 by_cases c5 : t138.size + t137.size ≤ 9223372036854775807
 ·rw [if_pos c5] at H; have c5b0 := eq_true c5; have c5b1 : decide (t138.size + t137.size ≤ 9223372036854775807) = true := decide_eq_true c5
  try have c5b2 : (9223372036854775807 < t138.size + t137.size) = False := eq_false (Nat.not_lt.2 c5)
  obtain rfl := Option.some.inj H
  go_enter Tryz.func95, Tryz.ntmps95
  go_wp2_with (first | ((with_reducible refine gate_callee (f := 161) rfl ?_); refine gd_ (some 7) Tryz.func161 (strconv_Itoa.calls a0 t137 _ lb_ A3.out) ?_; intro w6 hb; replace HB := bs_ hb; (try clear hb)) | ((with_reducible refine gate_callee (f := 155) rfl ?_); refine gd_ (some 12) Tryz.func155 (strings_Repeat.calls (⟨#[48]⟩ : ByteArray) (wrap64 (a1 - (t137.size : Int))) t138 _ A4.out) ?_; intro w7 hb; replace HB := bs_ hb; (try clear hb)))
  go_ret
  exact en_
 ·rw [if_neg c5] at H; exact absurd H (by simp)
end Go.Proofs.YtfjifhkgifefeaaGreatDoor.PA
end

