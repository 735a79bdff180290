/- CivilBack, whole: a date comes back from its days, and from its text; a day more is the next date, and the next weekday; a day of 400 years later has the same month, day and weekday. No condition. -/
import Derived.Test.YtfjifhkgifefeaaGreatDoorZCb1
import Derived.Lib.SplitLaws
import Derived.Lib.ItoaNum
import Derived.Lib.Repeat
import Derived.Lib.AtoiTie
import Derived.Lib.ParseIntBTie
import Derived.WideLaws
import Derived.Test.YtfjifhkgifefeaaGreatDoorProg
import Derived.Below
import Derived.Deep.Draws
import Derived.Deep.AppendLies
import Derived.Maps.AppendAt
import Derived.OwnWalk
import Derived.Laws.BytesArg
import Derived.Laws.MakeOwn
import Derived.Laws.OwnMore
import Derived.Deep.OwnRows
import Derived.Tactics
import Derived.Lib.ConvBytes
import Derived.Laws.Slices
import Derived.WalkKit
import Derived.KernelRfl
import Derived.RowKit3
import Derived.Deep.LoopGhost
import Derived.Deep.QuietTactic
import Derived.BigQuiet
import Derived.Deep.DeepCutAuto
import Derived.Deep.CutBlock
import Derived.Deep.RegionHeld3
import Derived.Laws.Rows
import Derived.Lib.AppendStr
import Derived.ArgAppend
import Derived.Laws.IdiomCopy
import Derived.OrdersHeld
import Derived.Laws.BitsLemmas
import Derived.RowKit
set_option linter.unusedVariables false
set_option linter.unusedSimpArgs false
section
/- Texts of dates, in plain Lean: a text cut at a byte, numbers with so many digits, the date of a text. -/
namespace Go.Proofs.YtfjifhkgifefeaaGreatDoor.StrM
open Go Go.Proofs.YtfjifhkgifefeaaGreatDoor.CivM

/-! ### a text cut at a byte -/
def splitC (c : UInt8) : List UInt8 → List (List UInt8)
  | [] => [[]]
  | b :: l => if b = c then [] :: splitC c l else match splitC c l with
    | h :: t => (b :: h) :: t
    | [] => [[b]]
theorem splitC_none (c : UInt8) : ∀ l : List UInt8, c ∉ l → splitC c l = [l]
  | [], _ => rfl
  | b :: l, h => by
    simp only [List.mem_cons, not_or] at h
    simp only [splitC]
    rw [if_neg (fun e => h.1 e.symm), splitC_none c l h.2]
theorem splitC_app (c : UInt8) : ∀ (a l : List UInt8), c ∉ a → splitC c (a ++ c :: l) = a :: splitC c l
  | [], l, _ => by simp [splitC]
  | b :: a, l, h => by
    simp only [List.mem_cons, not_or] at h
    simp only [List.cons_append, splitC]
    rw [if_neg (fun e => h.1 e.symm), splitC_app c a l h.2]
theorem splitK_eq (c : UInt8) : ∀ l : List UInt8, Lib.splitK [c] 0 (l.count c) l = splitC c l
  | [] => rfl
  | b :: l => by
    have ih := splitK_eq c l
    by_cases h : b = c
    · subst h
      have hix : Lib.index (b :: l) [b] = 0 := by rw [Lib.index]; simp [List.isPrefixOf]
      rw [List.count_cons_self]
      simp only [Lib.splitK, splitC, hix]
      simp [ih]
    · have hp : ([c] : List UInt8).isPrefixOf (b :: l) = false := by simp [List.isPrefixOf, Ne.symm h]
      have hix : Lib.index (b :: l) [c] = if Lib.index l [c] == -1 then -1 else Lib.index l [c] + 1 := by rw [Lib.index, hp]; simp
      rw [List.count_cons_of_ne (by simpa using h)]
      have hg := Lib.index_ge l [c]
      simp only [splitC, if_neg h]
      cases hk : l.count c with
      | zero =>
        rw [hk] at ih
        simp only [Lib.splitK] at ih ⊢
        rw [← ih]
      | succ k =>
        rw [hk] at ih
        simp only [Lib.splitK] at ih ⊢
        by_cases hm : Lib.index l [c] = -1
        · have h0 := Lib.count_miss hm
          rw [Lib.count_one] at h0; omega
        · rw [if_neg (by simpa using hm)] at ih
          have hx : Lib.index (b :: l) [c] = Lib.index l [c] + 1 := by rw [hix, if_neg (by simpa using hm)]
          rw [hx, if_neg (by simp; omega)]
          rw [← ih]
          have e1 : (Lib.index l [c] + 1).toNat = (Lib.index l [c]).toNat + 1 := by omega
          simp [e1, Nat.add_right_comm]
theorem splitB_eq (c : UInt8) (s : ByteArray) : (Lib.splitB ⟨#[c]⟩ 0 (Lib.countB s ⟨#[c]⟩) s).map (·.data.toList) = splitC c s.data.toList := by
  rw [Lib.splitB_data]
  have e : Lib.countB s ⟨#[c]⟩ = s.data.toList.count c := Lib.count_one c s.data.toList
  rw [e]
  exact splitK_eq c s.data.toList
/-! ### digits -/
def dg (k : Int) : UInt8 := UInt8.ofNat (48 + k.toNat)
def dgt (c : UInt8) : Bool := 48 ≤ c.toNat && c.toNat ≤ 57
def dv (c : UInt8) : Int := (c.toNat : Int) - 48
theorem dg_toNat (k : Int) (h0 : 0 ≤ k) (h1 : k ≤ 9) : (dg k).toNat = 48 + k.toNat := by
  unfold dg
  rw [UInt8.toNat_ofNat', Nat.mod_eq_of_lt (by omega)]
theorem dgt_iff (c : UInt8) : dgt c = true ↔ 48 ≤ c.toNat ∧ c.toNat ≤ 57 := by simp [dgt]
theorem dgt_dg (k : Int) (h0 : 0 ≤ k) (h1 : k ≤ 9) : dgt (dg k) = true := by rw [dgt_iff, dg_toNat k h0 h1]; omega
theorem dv_dg (k : Int) (h0 : 0 ≤ k) (h1 : k ≤ 9) : dv (dg k) = k := by unfold dv; rw [dg_toNat k h0 h1]; omega
theorem dg_dv (c : UInt8) (h : dgt c = true) : dg (dv c) = c := by
  rw [dgt_iff] at h
  have : c.toNat < 256 := c.toNat_lt
  apply UInt8.toNat_inj.1
  rw [dg_toNat _ (by unfold dv; omega) (by unfold dv; omega)]
  unfold dv; omega
theorem dv_bd (c : UInt8) (h : dgt c = true) : 0 ≤ dv c ∧ dv c ≤ 9 := by rw [dgt_iff] at h; unfold dv; omega

def padded (w : Nat) (n : Int) : List UInt8 := Lib.repeatL [48] (w - (Lib.itoa n).length) ++ Lib.itoa n
theorem dd1 (u : Nat) (h : u < 10) : Lib.decDigits u = [dg u] := by
  rw [Lib.decDigits, dif_pos h]; simp [dg]
theorem dd2 (u : Nat) (h0 : 10 ≤ u) (h : u < 100) : Lib.decDigits u = [dg (u / 10 : Nat), dg (u % 10 : Nat)] := by
  rw [Lib.decDigits, dif_neg (by omega), dd1 _ (by omega)]; simp [dg]; congr 1
theorem dd3 (u : Nat) (h0 : 100 ≤ u) (h : u < 1000) : Lib.decDigits u = [dg (u / 100 : Nat), dg (u / 10 % 10 : Nat), dg (u % 10 : Nat)] := by
  rw [Lib.decDigits, dif_neg (by omega), dd2 _ (by omega) (by omega), Nat.div_div_eq_div_mul]; simp [dg]; congr 1
theorem dd4 (u : Nat) (h0 : 1000 ≤ u) (h : u < 10000) : Lib.decDigits u = [dg (u / 1000 : Nat), dg (u / 100 % 10 : Nat), dg (u / 10 % 10 : Nat), dg (u % 10 : Nat)] := by
  rw [Lib.decDigits, dif_neg (by omega), dd3 _ (by omega) (by omega), Nat.div_div_eq_div_mul, Nat.div_div_eq_div_mul]; simp [dg]; congr 1
theorem dg0 : dg 0 = 48 := rfl
theorem padded2 (n : Int) (h0 : 0 ≤ n) (h1 : n ≤ 99) : padded 2 n = [dg (n / 10), dg (n % 10)] := by
  obtain ⟨u, rfl⟩ : ∃ u : Nat, n = u := ⟨n.toNat, by omega⟩
  unfold padded Lib.itoa
  rw [if_neg (by omega), Int.toNat_natCast]
  by_cases h : u < 10
  · rw [dd1 u h]
    have e1 : (u : Int) / 10 = 0 := by omega
    have e2 : (u : Int) % 10 = u := by omega
    rw [e1, e2, dg0]; rfl
  · rw [dd2 u (by omega) (by omega)]; rfl
theorem padded4 (n : Int) (h0 : 0 ≤ n) (h1 : n ≤ 9999) : padded 4 n = [dg (n / 1000), dg (n / 100 % 10), dg (n / 10 % 10), dg (n % 10)] := by
  obtain ⟨u, rfl⟩ : ∃ u : Nat, n = u := ⟨n.toNat, by omega⟩
  unfold padded Lib.itoa
  rw [if_neg (by omega), Int.toNat_natCast]
  by_cases h : u < 10
  · rw [dd1 u h]
    have e1 : (u : Int) / 1000 = 0 := by omega
    have e2 : (u : Int) / 100 % 10 = 0 := by omega
    have e3 : (u : Int) / 10 % 10 = 0 := by omega
    have e4 : (u : Int) % 10 = u := by omega
    rw [e1, e2, e3, e4, dg0]; rfl
  by_cases h : u < 100
  · rw [dd2 u (by omega) h]
    have e1 : (u : Int) / 1000 = 0 := by omega
    have e2 : (u : Int) / 100 % 10 = 0 := by omega
    have e3 : (u : Int) / 10 % 10 = (u : Int) / 10 := by omega
    rw [e1, e2, e3, dg0]; rfl
  by_cases h : u < 1000
  · rw [dd3 u (by omega) h]
    have e1 : (u : Int) / 1000 = 0 := by omega
    have e2 : (u : Int) / 100 % 10 = (u : Int) / 100 := by omega
    rw [e1, e2, dg0]; rfl
  · rw [dd4 u (by omega) (by omega)]; rfl

theorem notmem (c : UInt8) (h : dgt c = true) : c ≠ 45 ∧ c ≠ 43 := by
  rw [dgt_iff] at h
  constructor <;> (rintro rfl; simp at h)
theorem digitVal_ok (c : UInt8) (h : dgt c = true) : Lib.digitVal c = some (c.toNat - 48) := by
  rw [dgt_iff] at h
  unfold Lib.digitVal; rw [if_pos h]
theorem atoi2 (a b : UInt8) (ha : dgt a = true) (hb : dgt b = true) : Lib.atoiAll [a, b] = .ok (10 * dv a + dv b) := by
  have na := notmem a ha
  rw [Lib.atoiAll_short _ (by simp)]
  simp only [Lib.atoi, Lib.decNat, Lib.decFrom, digitVal_ok a ha, digitVal_ok b hb]
  rw [dgt_iff] at ha hb
  rw [if_neg (by simpa using na.1), if_neg (by simpa using na.2)]
  simp [Lib.NumEnd.ofOption]
  unfold dv; omega
theorem atoi4 (a b c d : UInt8) (ha : dgt a = true) (hb : dgt b = true) (hc : dgt c = true) (hd : dgt d = true) : Lib.atoiAll [a, b, c, d] = .ok (1000 * dv a + 100 * dv b + 10 * dv c + dv d) := by
  have na := notmem a ha
  rw [Lib.atoiAll_short _ (by simp)]
  simp only [Lib.atoi, Lib.decNat, Lib.decFrom, digitVal_ok a ha, digitVal_ok b hb, digitVal_ok c hc, digitVal_ok d hd]
  rw [dgt_iff] at ha hb hc hd
  rw [if_neg (by simpa using na.1), if_neg (by simpa using na.2)]
  simp [Lib.NumEnd.ofOption]
  unfold dv; omega

/-! ### the date of a text -/
def dateOf : List UInt8 → Option (Int × Int × Int)
  | [a, b, c, d, p, e, f, q, g, h] =>
    if p = 45 ∧ q = 45 ∧ (dgt a = true ∧ dgt b = true ∧ dgt c = true ∧ dgt d = true ∧ dgt e = true ∧ dgt f = true ∧ dgt g = true ∧ dgt h = true) ∧ vld (1000 * dv a + 100 * dv b + 10 * dv c + dv d) (10 * dv e + dv f) (10 * dv g + dv h)
    then some (1000 * dv a + 100 * dv b + 10 * dv c + dv d, 10 * dv e + dv f, 10 * dv g + dv h) else none
  | _ => none
def dtext (y m d : Int) : List UInt8 := padded 4 y ++ 45 :: (padded 2 m ++ 45 :: padded 2 d)
theorem dtext_eq {y m d : Int} (v : vld y m d) : dtext y m d = [dg (y / 1000), dg (y / 100 % 10), dg (y / 10 % 10), dg (y % 10), 45, dg (m / 10), dg (m % 10), 45, dg (d / 10), dg (d % 10)] := by
  obtain ⟨h1, h2, h3, h4, h5, h6⟩ := v
  have hd := dim_bd y m
  unfold dtext
  rw [padded4 y (by omega) h2, padded2 m (by omega) (by omega), padded2 d (by omega) (by omega)]
  rfl
theorem dateOf_dtext {y m d : Int} (v : vld y m d) : dateOf (dtext y m d) = some (y, m, d) := by
  rw [dtext_eq v]
  obtain ⟨h1, h2, h3, h4, h5, h6⟩ := id v
  have hd := dim_bd y m
  simp only [dateOf]
  rw [dgt_dg _ (by omega) (by omega), dgt_dg _ (by omega) (by omega), dgt_dg _ (by omega) (by omega), dgt_dg _ (by omega) (by omega), dgt_dg _ (by omega) (by omega), dgt_dg _ (by omega) (by omega), dgt_dg _ (by omega) (by omega), dgt_dg _ (by omega) (by omega)]
  rw [dv_dg _ (by omega) (by omega), dv_dg _ (by omega) (by omega), dv_dg _ (by omega) (by omega), dv_dg _ (by omega) (by omega), dv_dg _ (by omega) (by omega), dv_dg _ (by omega) (by omega), dv_dg _ (by omega) (by omega), dv_dg _ (by omega) (by omega)]
  have e1 : 1000 * (y / 1000) + 100 * (y / 100 % 10) + 10 * (y / 10 % 10) + y % 10 = y := by omega
  have e2 : 10 * (m / 10) + m % 10 = m := by omega
  have e3 : 10 * (d / 10) + d % 10 = d := by omega
  rw [e1, e2, e3, if_pos ⟨trivial, trivial, ⟨rfl, rfl, rfl, rfl, rfl, rfl, rfl, rfl⟩, v⟩]
/-- What a text is that has a date. -/
theorem dateOf_some {l : List UInt8} {y m d : Int} (h : dateOf l = some (y, m, d)) :
    vld y m d ∧ dtext y m d = l ∧ ∃ p0 p1 p2, splitC 45 l = [p0, p1, p2] ∧ Lib.atoiAll p0 = .ok y ∧ Lib.atoiAll p1 = .ok m ∧ Lib.atoiAll p2 = .ok d := by
  unfold dateOf at h
  split at h
  · rename_i a b c d' p e f q g h'
    split at h
    · rename_i hc
      obtain ⟨rfl, rfl, ⟨ha, hb, hc, hd, he, hf, hg, hh⟩, v⟩ := hc
      simp only [Option.some.injEq, Prod.mk.injEq] at h
      obtain ⟨rfl, rfl, rfl⟩ := h
      refine ⟨v, ?_, [a, b, c, d'], [e, f], [g, h'], ?_, atoi4 a b c d' ha hb hc hd, atoi2 e f he hf, atoi2 g h' hg hh⟩
      · rw [dtext_eq v]
        have b1 := dv_bd a ha
        have b2 := dv_bd b hb
        have b3 := dv_bd c hc
        have b4 := dv_bd d' hd
        have b5 := dv_bd e he
        have b6 := dv_bd f hf
        have b7 := dv_bd g hg
        have b8 := dv_bd h' hh
        have k1 : (1000 * dv a + 100 * dv b + 10 * dv c + dv d') / 1000 = dv a := by omega
        have k2 : (1000 * dv a + 100 * dv b + 10 * dv c + dv d') / 100 % 10 = dv b := by omega
        have k3 : (1000 * dv a + 100 * dv b + 10 * dv c + dv d') / 10 % 10 = dv c := by omega
        have k4 : (1000 * dv a + 100 * dv b + 10 * dv c + dv d') % 10 = dv d' := by omega
        have k5 : (10 * dv e + dv f) / 10 = dv e := by omega
        have k6 : (10 * dv e + dv f) % 10 = dv f := by omega
        have k7 : (10 * dv g + dv h') / 10 = dv g := by omega
        have k8 : (10 * dv g + dv h') % 10 = dv h' := by omega
        rw [k1, k2, k3, k4, k5, k6, k7, k8, dg_dv a ha, dg_dv b hb, dg_dv c hc, dg_dv d' hd, dg_dv e he, dg_dv f hf, dg_dv g hg, dg_dv h' hh]
      · have n1 := (notmem a ha).1
        have n2 := (notmem b hb).1
        have n3 := (notmem c hc).1
        have n4 := (notmem d' hd).1
        have n5 := (notmem e he).1
        have n6 := (notmem f hf).1
        have n7 := (notmem g hg).1
        have n8 := (notmem h' hh).1
        show splitC 45 ([a, b, c, d'] ++ 45 :: ([e, f] ++ 45 :: [g, h'])) = _
        rw [splitC_app _ _ _ (by simp [n1.symm, n2.symm, n3.symm, n4.symm]), splitC_app _ _ _ (by simp [n5.symm, n6.symm]), splitC_none _ _ (by simp [n7.symm, n8.symm])]
    · cases h
  · cases h
/-- ahead of the walk: which way it goes. -/
theorem dateOf_iff {l : List UInt8} {y m d : Int} {p0 p1 p2 : List UInt8} (hs : splitC 45 l = [p0, p1, p2]) (h0 : Lib.atoiAll p0 = .ok y) (h1 : Lib.atoiAll p1 = .ok m) (h2 : Lib.atoiAll p2 = .ok d) :
    dateOf l = if vld y m d ∧ dtext y m d = l then some (y, m, d) else none := by
  split
  · rename_i c
    rw [← c.2]; exact dateOf_dtext c.1
  · rename_i c
    cases h : dateOf l with
    | none => rfl
    | some t =>
      obtain ⟨y', m', d'⟩ := t
      obtain ⟨v, e, q0, q1, q2, hs', a0, a1, a2⟩ := dateOf_some h
      rw [hs] at hs'
      simp only [List.cons.injEq, and_true] at hs'
      obtain ⟨rfl, rfl, rfl⟩ := hs'
      rw [h0] at a0; rw [h1] at a1; rw [h2] at a2
      simp only [Lib.NumEnd.ok.injEq] at a0 a1 a2
      subst a0 a1 a2
      exact absurd ⟨v, e⟩ c
end Go.Proofs.YtfjifhkgifefeaaGreatDoor.StrM
end

section
namespace Go.Proofs.YtfjifhkgifefeaaGreatDoor.PA
open Go.Proofs.YtfjifhkgifefeaaGreatDoor.Giv Go.RowKit Go.Proofs.YtfjifhkgifefeaaGreatDoorW.PrintWords Go.Proofs.YtfjifhkgifefeaaGreatDoorW.PrintLast Go.Proofs.YtfjifhkgifefeaaGreatDoorW.PrintMore
attribute [local go_sem] max2_int min2_int max_two min_two max_three min_three max_four min_four   -- for this text's walks alone
set_option linter.unusedVariables false
set_option linter.unusedSimpArgs false

/-! ### civil_digits: function 95 -/
def civil_digits.f (a0 : Int) (a1 : Int) : Option (ByteArray) := (strconv_Itoa.f a0).bind fun t137 => ((strings_Repeat.f (⟨#[48]⟩ : ByteArray) (wrap64 (a1 - (t137.size : Int)))).bind fun t138 => (if t138.size + t137.size ≤ 9223372036854775807 then (some (t138 ++ t137)) else (none)))
set_option maxHeartbeats 8000000 in
set_option maxRecDepth 100000 in
theorem civil_digits.calls (a0 : Int) (a1 : Int) (r : ByteArray) (w : World) (hl_ : Laid w) (h : civil_digits.f a0 a1 = some r) :
    Calls Tryz.prog 95 #[.int .i64 a0, .int .i64 a1] w fun e w' => e = .returned (.string r) ∧ Below w.heap.size w w' := by
  have HL := Aside0.mk hl_
  clear hl_
  have HB := Aside0.mk (Below.refl w.heap.size w)
  have H := h
  clear h
  unfold civil_digits.f at H
  replace H := Option.bind_eq_some_iff.mp H
  obtain ⟨t137, A30, H⟩ := H
  try dsimp only at H
  have A3 := Aside0.mk A30
  clear A30
  replace H := Option.bind_eq_some_iff.mp H
  obtain ⟨t138, A40, H⟩ := H
  try dsimp only at H
  have A4 := Aside0.mk A40
  clear A40
  by_cases c5 : t138.size + t137.size ≤ 9223372036854775807
  · rw [if_pos c5] at H
    have c5b0 := eq_true c5
    have c5b1 : decide (t138.size + t137.size ≤ 9223372036854775807) = true := decide_eq_true c5
    try have c5b2 : (9223372036854775807 < t138.size + t137.size) = False := eq_false (Nat.not_lt.2 c5)
    obtain rfl := Option.some.inj H
    go_enter Tryz.func95, Tryz.ntmps95
    go_wp2_with (first | ((with_reducible refine gate_callee (f := 161) rfl ?_); refine goesL_ (some 7) rfl rfl Tryz.func161 (by kernel_rfl) rfl #[.int .i64 a0] rfl (by (try simp only [List.map_toArray, List.map_cons, List.map_nil]); first | done | rfl | (simp only [List.length_drop, List.length_take]; rfl)) ?_; (with_reducible refine (strconv_Itoa.calls a0 t137 _ (by first | exact Laid.below HL.out (by repeat (first | (with_reducible first | exact HB.out | apply below_alloc | apply pw_below_drewN | apply below_drew1 | refine below_set ?_ (Aside0.out (by assumption))) | exact HB.out))) A3.out).mono ?_); rintro e w6 ⟨rfl, hb⟩; refine ⟨_, rfl, ?_⟩; have n0_ := Aside0.mk (below_step (by repeat (first | (with_reducible first | exact HB.out | apply below_alloc | apply pw_below_drewN | apply below_drew1) | exact HB.out)) hb); clear HB; have HB := n0_; clear n0_; (try clear hb); (try clear hb2); (try clear hk); (try clear hi)) | ((with_reducible refine gate_callee (f := 155) rfl ?_); refine goesL_ (some 12) rfl rfl Tryz.func155 (by kernel_rfl) rfl #[.string (⟨#[48]⟩ : ByteArray), .int .i64 (wrap64 (a1 - (t137.size : Int)))] rfl (by (try simp only [List.map_toArray, List.map_cons, List.map_nil]); first | done | rfl | (simp only [List.length_drop, List.length_take]; rfl)) ?_; (with_reducible refine (strings_Repeat.calls (⟨#[48]⟩ : ByteArray) (wrap64 (a1 - (t137.size : Int))) t138 _ A4.out).mono ?_); rintro e w7 ⟨rfl, hb⟩; refine ⟨_, rfl, ?_⟩; have n0_ := Aside0.mk (below_step (by repeat (first | (with_reducible first | exact HB.out | apply below_alloc | apply pw_below_drewN | apply below_drew1) | exact HB.out)) hb); clear HB; have HB := n0_; clear n0_; (try clear hb); (try clear hb2); (try clear hk); (try clear hi)))
    go_ret
    exact ⟨by first | rfl | (simp [errW_none, errW_some] <;> rfl) | (simp [*, errW_none, errW_some] <;> rfl), by repeat (first | (with_reducible first | exact HB.out | apply below_alloc | apply pw_below_drewN | apply below_drew1) | exact HB.out)⟩
  · rw [if_neg c5] at H
    exact absurd H (by simp)

end Go.Proofs.YtfjifhkgifefeaaGreatDoor.PA
end

section
namespace Go.Proofs.YtfjifhkgifefeaaGreatDoor.PA
open Go.Proofs.YtfjifhkgifefeaaGreatDoor.Giv Go.RowKit Go.Proofs.YtfjifhkgifefeaaGreatDoorW.PrintWords Go.Proofs.YtfjifhkgifefeaaGreatDoorW.PrintLast Go.Proofs.YtfjifhkgifefeaaGreatDoorW.PrintMore
attribute [local go_sem] max2_int min2_int max_two min_two max_three min_three max_four min_four   -- for this text's walks alone
set_option linter.unusedVariables false
set_option linter.unusedSimpArgs false

/-! ### civil_Text: function 26 -/
def civil_Text.f (k : Nat) (a0_0 : Int) (a0_1 : Int) (a0_2 : Int) : Option (ByteArray × Option Int) := (civil_Check.f k a0_0 a0_1 a0_2).bind fun t140 => (if t140.isNone = true then ((civil_digits.f a0_0 4).bind fun t142 => (if t142.size + 1 ≤ 9223372036854775807 then ((civil_digits.f a0_1 2).bind fun t143 => (if (t142 ++ (⟨#[45]⟩ : ByteArray)).size + t143.size ≤ 9223372036854775807 then (if ((t142 ++ (⟨#[45]⟩ : ByteArray)) ++ t143).size + 1 ≤ 9223372036854775807 then ((civil_digits.f a0_2 2).bind fun t144 => (if (((t142 ++ (⟨#[45]⟩ : ByteArray)) ++ t143) ++ (⟨#[45]⟩ : ByteArray)).size + t144.size ≤ 9223372036854775807 then (some ((((t142 ++ (⟨#[45]⟩ : ByteArray)) ++ t143) ++ (⟨#[45]⟩ : ByteArray)) ++ t144, none)) else (none))) else (none)) else (none))) else (none))) else (some ((⟨#[]⟩ : ByteArray), some (t140.getD 0))))
def civil_Text.T4 : Bool × List (List Nat × List Nat) := (true, [([], []), ([0], [0]), ([1], [1]), ([2], [2]), ([], []), ([4], [4]), ([5, 2], [5]), ([3, 6], [3, 6]), ([7], [7]), ([], []), ([9], [9]), ([10, 6], [10]), ([8, 11], [8, 11]), ([12, 11, 0, 1, 2, 3, 4, 5, 6, 7, 8, 9, 10, 11, 12], [12]), ([13, 0, 1, 2, 3, 4, 5, 6, 7, 8, 9, 10, 11, 12, 13], [])])
def civil_Text.B4 : List Nat := [0, 1, 3, 7, 0, 16, 55, 127, 255, 0, 512, 1655, 4095, 8191, 16383]
theorem civil_Text.tab4 : rtab .any (opsOf Tryz.f26 4) = civil_Text.T4 := by kernel_rfl
theorem civil_Text.bits4 : waitsOk civil_Text.T4.2 civil_Text.B4 = true := by kernel_rfl
set_option maxHeartbeats 8000000 in
set_option maxRecDepth 100000 in
theorem civil_Text.calls (k : Nat) (a0_0 : Int) (a0_1 : Int) (a0_2 : Int) (r1 : ByteArray) (r2 : Option Int) (w : World) (hl_ : Laid w) (h : civil_Text.f k a0_0 a0_1 a0_2 = some (r1, r2)) :
    Calls Tryz.prog 26 #[.agg #[.int .i64 a0_0, .int .i64 a0_1, .int .i64 a0_2]] w fun e w' => e = .returned (.tuple #[.string r1, errW r2]) ∧ Below w.heap.size w w' := by
  have hu26 := Tryz.underlying26
  have hu28 := Tryz.underlying28
  have hu157 := Tryz.underlying157
  have HL := Aside0.mk hl_
  clear hl_
  have HB := Aside0.mk (Below.refl w.heap.size w)
  have H := h
  clear h
  unfold civil_Text.f at H
  replace H := Option.bind_eq_some_iff.mp H
  obtain ⟨t140, A20, H⟩ := H
  try dsimp only at H
  have A2 := Aside0.mk A20
  clear A20
  rcases t140 with _ | q141
  · rw [if_pos (show (none : Option Int).isNone = true by rfl)] at H
    try dsimp only [Option.getD_some] at H
    try simp only [errW_none, errW_some]
    replace H := Option.bind_eq_some_iff.mp H
    obtain ⟨t142, A30, H⟩ := H
    try dsimp only at H
    have A3 := Aside0.mk A30
    clear A30
    by_cases c4 : t142.size + 1 ≤ 9223372036854775807
    · rw [if_pos c4] at H
      have c4b0 := eq_true c4
      have c4b1 : decide (t142.size + 1 ≤ 9223372036854775807) = true := decide_eq_true c4
      try have c4b2 : (9223372036854775807 < t142.size + 1) = False := eq_false (Nat.not_lt.2 c4)
      replace H := Option.bind_eq_some_iff.mp H
      obtain ⟨t143, A50, H⟩ := H
      try dsimp only at H
      have A5 := Aside0.mk A50
      clear A50
      by_cases c6 : (t142 ++ (⟨#[45]⟩ : ByteArray)).size + t143.size ≤ 9223372036854775807
      · rw [if_pos c6] at H
        have c6b0 := eq_true c6
        have c6b1 : decide ((t142 ++ (⟨#[45]⟩ : ByteArray)).size + t143.size ≤ 9223372036854775807) = true := decide_eq_true c6
        try have c6b2 : (9223372036854775807 < (t142 ++ (⟨#[45]⟩ : ByteArray)).size + t143.size) = False := eq_false (Nat.not_lt.2 c6)
        try have c6b3 : (9223372036854775807 < t142.size + 1 + t143.size) = False := eq_false (by have q_ := c6; simp only [ByteArray.size_append] at q_; exact Nat.not_lt.2 q_)
        by_cases c7 : ((t142 ++ (⟨#[45]⟩ : ByteArray)) ++ t143).size + 1 ≤ 9223372036854775807
        · rw [if_pos c7] at H
          have c7b0 := eq_true c7
          have c7b1 : decide (((t142 ++ (⟨#[45]⟩ : ByteArray)) ++ t143).size + 1 ≤ 9223372036854775807) = true := decide_eq_true c7
          try have c7b2 : (9223372036854775807 < ((t142 ++ (⟨#[45]⟩ : ByteArray)) ++ t143).size + 1) = False := eq_false (Nat.not_lt.2 c7)
          try have c7b3 : (9223372036854775807 < t142.size + 1 + t143.size + 1) = False := eq_false (by have q_ := c7; simp only [ByteArray.size_append] at q_; exact Nat.not_lt.2 q_)
          replace H := Option.bind_eq_some_iff.mp H
          obtain ⟨t144, A80, H⟩ := H
          try dsimp only at H
          have A8 := Aside0.mk A80
          clear A80
          by_cases c9 : (((t142 ++ (⟨#[45]⟩ : ByteArray)) ++ t143) ++ (⟨#[45]⟩ : ByteArray)).size + t144.size ≤ 9223372036854775807
          · rw [if_pos c9] at H
            have c9b0 := eq_true c9
            have c9b1 : decide ((((t142 ++ (⟨#[45]⟩ : ByteArray)) ++ t143) ++ (⟨#[45]⟩ : ByteArray)).size + t144.size ≤ 9223372036854775807) = true := decide_eq_true c9
            try have c9b2 : (9223372036854775807 < (((t142 ++ (⟨#[45]⟩ : ByteArray)) ++ t143) ++ (⟨#[45]⟩ : ByteArray)).size + t144.size) = False := eq_false (Nat.not_lt.2 c9)
            try have c9b3 : (9223372036854775807 < t142.size + 1 + t143.size + 1 + t144.size) = False := eq_false (by have q_ := c9; simp only [ByteArray.size_append] at q_; exact Nat.not_lt.2 q_)
            simp only [Option.some.injEq, Prod.mk.injEq] at H
            obtain ⟨rfl, rfl⟩ := H
            go_enter Tryz.func26, Tryz.ntmps26
            try go_wp2_with (first | ((with_reducible refine gate_dst (N := 1) rfl ?_); refine box_event ?hg (N := 1) ?hd (cs := #[.int .i64 a0_0, .int .i64 a0_1, .int .i64 a0_2]) (t := 26) ?hr ?_; (case hd => rfl); (case hg => rfl); (case hr => first | (go_simp; done) | (go_simp; rfl)); intro gb139 hg w10 hbox hb; have n0_ := Aside0.mk (below_step (by repeat (first | (with_reducible first | exact HB.out | apply below_alloc | apply pw_below_drewN | apply below_drew1) | exact HB.out)) hb); have n1_ := Aside0.mk (hbox); have n2_ := Aside0.mk ((by rw [hg]; exact (below_size (by repeat (first | (with_reducible first | exact HB.out | apply below_alloc | apply pw_below_drewN | apply below_drew1) | exact HB.out))) : w.heap.size ≤ gb139)); have n3_ := Aside0.mk ((by rw [hg]; exact (below_size (by repeat (first | (with_reducible first | exact HB.out | apply below_alloc | apply pw_below_drewN | apply below_drew1) | exact HB.out))) : w.heap.size ≤ gb139)); clear HB; have HB := n0_; have BK139 := n1_; have GW139 := n2_; have GE139 := n3_; clear n0_ n1_ n2_ n3_; clear hb hbox hg; have hcz11_0 : w10.cell? ⟨gb139, 0, none⟩ = some (.int .i64 a0_0) := (blk_cell BK139.out 0).trans rfl; have hcz11_1 : w10.cell? ⟨gb139, 1, none⟩ = some (.int .i64 a0_1) := (blk_cell BK139.out 1).trans rfl; have hcz11_2 : w10.cell? ⟨gb139, 2, none⟩ = some (.int .i64 a0_2) := (blk_cell BK139.out 2).trans rfl; have hfz11_0 := blk_frozen BK139.out 0; have hfz11_1 := blk_frozen BK139.out 1; have hfz11_2 := blk_frozen BK139.out 2) | ((with_reducible refine gate_callee (f := 22) rfl ?_); refine goesL_ (some 6) rfl rfl Tryz.func22 (by kernel_rfl) rfl #[.agg #[.int .i64 a0_0, .int .i64 a0_1, .int .i64 a0_2]] rfl (by (try simp only [List.map_toArray, List.map_cons, List.map_nil]); first | done | rfl | (simp only [List.length_drop, List.length_take]; rfl)) ?_; (with_reducible refine (civil_Check.calls k a0_0 a0_1 a0_2 none _ A2.out).mono ?_); rintro e w12 ⟨rfl, hb⟩; refine ⟨_, rfl, ?_⟩; have n0_ := Aside0.mk (blk_below (g := gb139) (o := .cells #[.int .i64 a0_0, .int .i64 a0_1, .int .i64 a0_2] 26 (0, 0)) (by (with_reducible repeat (first | refine blk_drewN ?_ _ | refine blk_drew ?_ | refine blk_alloc ?_ _)); exact BK139.out) hb); have n1_ := Aside0.mk (below_step (by repeat (first | (with_reducible first | exact HB.out | apply below_alloc | apply pw_below_drewN | apply below_drew1 | refine below_set ?_ GE139.out) | exact HB.out)) hb); clear BK139; clear HB; have BK139 := n0_; have HB := n1_; clear n0_ n1_; (try clear hb); (try clear hb2); (try clear hk); (try clear hi); (try simp only [errW_none, errW_some])))
            have n0_ := Aside0.mk (blk_drew BK139.out)
            have n1_ := Aside0.mk (below_drew1 HB.out)
            clear BK139
            clear HB
            have BK139 := n0_
            have HB := n1_
            clear n0_ n1_
            refine start_ (n := 15) (S := fun w' => w'.cell? ⟨gb139, 0, none⟩ = some (.int .i64 a0_0) ∧ w'.cell? ⟨gb139, 1, none⟩ = some (.int .i64 a0_1) ∧ w'.cell? ⟨gb139, 2, none⟩ = some (.int .i64 a0_2)) (ds := []) #[false, false, false, false, false, false, false, false, false, false, false, false, false, false, false] (by kernel_rfl) rfl rfl ⟨(blk_cell BK139.out 0).trans rfl, (blk_cell BK139.out 1).trans rfl, (blk_cell BK139.out 2).trans rfl⟩ (fun hHeld => ?_); refine with_tabW civil_Text.tab4 civil_Text.bits4 (fun HT_ HW_ => ?_)
            generalize w12.drew = w13 at BK139 HB hHeld ⊢
            refine pure_ (i := 0) (N := some 10) (v := ?_) (a' := ?_) #[true, false, false, false, false, false, false, false, false, false, false, false, false, false, false] rfl rfl (any_of HT_.out (by kernel_rfl)) (fun _ _ _ h => h) (Or.inl ⟨by rfl, ?_⟩) ?_ ?_
            rotate_left
            · intro w'
              go_simp
              with_reducible rfl
            rotate_left
            · simp only [Act.put, List.setIfInBounds_toArray, List.set_cons_zero, List.set_cons_succ, i64_w, i32_w]
              rfl
            refine pure_ (i := 4) (N := some 14) (v := ?_) (a' := ?_) #[true, false, false, false, true, false, false, false, false, false, false, false, false, false, false] rfl rfl (any_of HT_.out (by kernel_rfl)) (fun _ _ _ h => h) (Or.inl ⟨by rfl, ?_⟩) ?_ ?_
            rotate_left
            · intro w'
              go_simp
              with_reducible rfl
            rotate_left
            · simp only [Act.put, List.setIfInBounds_toArray, List.set_cons_zero, List.set_cons_succ, i64_w, i32_w]
              rfl
            refine pure_ (i := 9) (N := some 19) (v := ?_) (a' := ?_) #[true, false, false, false, true, false, false, false, false, true, false, false, false, false, false] rfl rfl (any_of HT_.out (by kernel_rfl)) (fun _ _ _ h => h) (Or.inl ⟨by rfl, ?_⟩) ?_ ?_
            rotate_left
            · intro w'
              go_simp
              with_reducible rfl
            rotate_left
            · simp only [Act.put, List.setIfInBounds_toArray, List.set_cons_zero, List.set_cons_succ, i64_w, i32_w]
              rfl
            refine take_ (i := 1) (N := some 11) (v := ?_) (a' := ?_) #[true, true, false, false, true, false, false, false, false, true, false, false, false, false, false] rfl rfl (take_ofW HT_.out HW_.out (by kernel_rfl)) (fun _ _ _ h => h) (Or.inl ⟨by rfl, ?_⟩) hHeld ?_ ?_
            rotate_left
            · rintro w' ⟨s0, s1, s2⟩
              go_simp
              with_reducible rfl
            rotate_left
            · simp only [Act.put, List.setIfInBounds_toArray, List.set_cons_zero, List.set_cons_succ, i64_w, i32_w]
              rfl
            refine take_ (i := 5) (N := some 15) (v := ?_) (a' := ?_) #[true, true, false, false, true, true, false, false, false, true, false, false, false, false, false] rfl rfl (take_ofW HT_.out HW_.out (by kernel_rfl)) (fun _ _ _ h => h) (Or.inl ⟨by rfl, ?_⟩) hHeld ?_ ?_
            rotate_left
            · rintro w' ⟨s0, s1, s2⟩
              go_simp
              with_reducible rfl
            rotate_left
            · simp only [Act.put, List.setIfInBounds_toArray, List.set_cons_zero, List.set_cons_succ, i64_w, i32_w]
              rfl
            refine take_ (i := 10) (N := some 20) (v := ?_) (a' := ?_) #[true, true, false, false, true, true, false, false, false, true, true, false, false, false, false] rfl rfl (take_ofW HT_.out HW_.out (by kernel_rfl)) (fun _ _ _ h => h) (Or.inl ⟨by rfl, ?_⟩) hHeld ?_ ?_
            rotate_left
            · rintro w' ⟨s0, s1, s2⟩
              go_simp
              with_reducible rfl
            rotate_left
            · simp only [Act.put, List.setIfInBounds_toArray, List.set_cons_zero, List.set_cons_succ, i64_w, i32_w]
              rfl
            refine one_ (i := 2) (N := some 12) #[true, true, true, false, true, true, false, false, false, true, true, false, false, false, false] rfl rfl (one_of HT_.out (by kernel_rfl)) (by decide) (fun K hK => ?_)
            refine goes_ Tryz.func95 (by kernel_rfl) rfl #[.int .i64 a0_0, .int .i64 4] (by rfl) rfl rfl (by (try simp only [List.map_toArray, List.map_cons, List.map_nil]); first | done | rfl | (simp only [List.length_drop, List.length_take]; rfl)) ?_
            with_reducible refine (civil_digits.calls a0_0 4 t142 _ (by first | exact Laid.below HL.out (by repeat (first | (with_reducible first | exact HB.out | apply below_alloc | apply pw_below_drewN | apply below_drew1 | refine below_set ?_ (Aside0.out (by assumption))) | exact HB.out))) A3.out).mono ?_
            rintro e w14 ⟨rfl, hb⟩
            refine ⟨_, rfl, ?_⟩
            have n0_ := Aside0.mk (blk_below (g := gb139) (o := .cells #[.int .i64 a0_0, .int .i64 a0_1, .int .i64 a0_2] 26 (0, 0)) (by (with_reducible repeat (first | refine blk_drewN ?_ _ | refine blk_drew ?_ | refine blk_alloc ?_ _)); exact BK139.out) hb)
            have n1_ := Aside0.mk (below_step (by repeat (first | (with_reducible first | exact HB.out | apply below_alloc | apply pw_below_drewN | apply below_drew1 | refine below_set ?_ GE139.out) | exact HB.out)) hb)
            clear BK139
            clear HB
            have BK139 := n0_
            have HB := n1_
            clear n0_ n1_
            (try clear hb)
            (try clear hb2)
            (try clear hk)
            (try clear hi)
            refine hK.out _ _ ⟨(blk_cell BK139.out 0).trans rfl, (blk_cell BK139.out 1).trans rfl, (blk_cell BK139.out 2).trans rfl⟩ (fun hHeld => ?_)
            clear hK K
            refine norm_ (a' := ?_) ?_ ?_
            rotate_left
            · show Act.put _ (some 12) _ = _
              simp only [Act.put, List.setIfInBounds_toArray, List.set_cons_zero, List.set_cons_succ, i64_w, i32_w]
              rfl
            refine pure_ (i := 3) (N := some 13) (v := ?_) (a' := ?_) #[true, true, true, true, true, true, false, false, false, true, true, false, false, false, false] rfl rfl (any_of HT_.out (by kernel_rfl)) (fun _ _ _ h => h) (Or.inl ⟨by rfl, ?_⟩) ?_ ?_
            rotate_left
            · intro w'
              go_simp
              with_reducible rfl
            rotate_left
            · simp only [Act.put, List.setIfInBounds_toArray, List.set_cons_zero, List.set_cons_succ, i64_w, i32_w]
              rfl
            refine one_ (i := 6) (N := some 16) #[true, true, true, true, true, true, true, false, false, true, true, false, false, false, false] rfl rfl (one_of HT_.out (by kernel_rfl)) (by decide) (fun K hK => ?_)
            refine goes_ Tryz.func95 (by kernel_rfl) rfl #[.int .i64 a0_1, .int .i64 2] (by rfl) rfl rfl (by (try simp only [List.map_toArray, List.map_cons, List.map_nil]); first | done | rfl | (simp only [List.length_drop, List.length_take]; rfl)) ?_
            with_reducible refine (civil_digits.calls a0_1 2 t143 _ (by first | exact Laid.below HL.out (by repeat (first | (with_reducible first | exact HB.out | apply below_alloc | apply pw_below_drewN | apply below_drew1 | refine below_set ?_ (Aside0.out (by assumption))) | exact HB.out))) A5.out).mono ?_
            rintro e w15 ⟨rfl, hb⟩
            refine ⟨_, rfl, ?_⟩
            have n0_ := Aside0.mk (blk_below (g := gb139) (o := .cells #[.int .i64 a0_0, .int .i64 a0_1, .int .i64 a0_2] 26 (0, 0)) (by (with_reducible repeat (first | refine blk_drewN ?_ _ | refine blk_drew ?_ | refine blk_alloc ?_ _)); exact BK139.out) hb)
            have n1_ := Aside0.mk (below_step (by repeat (first | (with_reducible first | exact HB.out | apply below_alloc | apply pw_below_drewN | apply below_drew1 | refine below_set ?_ GE139.out) | exact HB.out)) hb)
            clear BK139
            clear HB
            have BK139 := n0_
            have HB := n1_
            clear n0_ n1_
            (try clear hb)
            (try clear hb2)
            (try clear hk)
            (try clear hi)
            refine hK.out _ _ ⟨(blk_cell BK139.out 0).trans rfl, (blk_cell BK139.out 1).trans rfl, (blk_cell BK139.out 2).trans rfl⟩ (fun hHeld => ?_)
            clear hK K
            refine norm_ (a' := ?_) ?_ ?_
            rotate_left
            · show Act.put _ (some 16) _ = _
              simp only [Act.put, List.setIfInBounds_toArray, List.set_cons_zero, List.set_cons_succ, i64_w, i32_w]
              rfl
            refine pure_ (i := 7) (N := some 17) (v := ?_) (a' := ?_) #[true, true, true, true, true, true, true, true, false, true, true, false, false, false, false] rfl rfl (any_of HT_.out (by kernel_rfl)) (fun _ _ _ h => h) (Or.inl ⟨by rfl, ?_⟩) ?_ ?_
            rotate_left
            · intro w'
              go_simp
              with_reducible rfl
            rotate_left
            · simp only [Act.put, List.setIfInBounds_toArray, List.set_cons_zero, List.set_cons_succ, i64_w, i32_w]
              rfl
            refine pure_ (i := 8) (N := some 18) (v := ?_) (a' := ?_) #[true, true, true, true, true, true, true, true, true, true, true, false, false, false, false] rfl rfl (any_of HT_.out (by kernel_rfl)) (fun _ _ _ h => h) (Or.inl ⟨by rfl, ?_⟩) ?_ ?_
            rotate_left
            · intro w'
              go_simp
              with_reducible rfl
            rotate_left
            · simp only [Act.put, List.setIfInBounds_toArray, List.set_cons_zero, List.set_cons_succ, i64_w, i32_w]
              rfl
            refine one_ (i := 11) (N := some 21) #[true, true, true, true, true, true, true, true, true, true, true, true, false, false, false] rfl rfl (one_of HT_.out (by kernel_rfl)) (by decide) (fun K hK => ?_)
            refine goes_ Tryz.func95 (by kernel_rfl) rfl #[.int .i64 a0_2, .int .i64 2] (by rfl) rfl rfl (by (try simp only [List.map_toArray, List.map_cons, List.map_nil]); first | done | rfl | (simp only [List.length_drop, List.length_take]; rfl)) ?_
            with_reducible refine (civil_digits.calls a0_2 2 t144 _ (by first | exact Laid.below HL.out (by repeat (first | (with_reducible first | exact HB.out | apply below_alloc | apply pw_below_drewN | apply below_drew1 | refine below_set ?_ (Aside0.out (by assumption))) | exact HB.out))) A8.out).mono ?_
            rintro e w16 ⟨rfl, hb⟩
            refine ⟨_, rfl, ?_⟩
            have n0_ := Aside0.mk (blk_below (g := gb139) (o := .cells #[.int .i64 a0_0, .int .i64 a0_1, .int .i64 a0_2] 26 (0, 0)) (by (with_reducible repeat (first | refine blk_drewN ?_ _ | refine blk_drew ?_ | refine blk_alloc ?_ _)); exact BK139.out) hb)
            have n1_ := Aside0.mk (below_step (by repeat (first | (with_reducible first | exact HB.out | apply below_alloc | apply pw_below_drewN | apply below_drew1 | refine below_set ?_ GE139.out) | exact HB.out)) hb)
            clear BK139
            clear HB
            have BK139 := n0_
            have HB := n1_
            clear n0_ n1_
            (try clear hb)
            (try clear hb2)
            (try clear hk)
            (try clear hi)
            refine hK.out _ _ ⟨(blk_cell BK139.out 0).trans rfl, (blk_cell BK139.out 1).trans rfl, (blk_cell BK139.out 2).trans rfl⟩ (fun hHeld => ?_)
            clear hK K
            refine norm_ (a' := ?_) ?_ ?_
            rotate_left
            · show Act.put _ (some 21) _ = _
              simp only [Act.put, List.setIfInBounds_toArray, List.set_cons_zero, List.set_cons_succ, i64_w, i32_w]
              rfl
            refine pure_ (i := 12) (N := some 22) (v := ?_) (a' := ?_) #[true, true, true, true, true, true, true, true, true, true, true, true, true, false, false] rfl rfl (any_of HT_.out (by kernel_rfl)) (fun _ _ _ h => h) (Or.inl ⟨by rfl, ?_⟩) ?_ ?_
            rotate_left
            · intro w'
              go_simp
              with_reducible rfl
            rotate_left
            · simp only [Act.put, List.setIfInBounds_toArray, List.set_cons_zero, List.set_cons_succ, i64_w, i32_w]
              rfl
            refine pure_ (i := 13) (N := some 2) (v := ?_) (a' := ?_) #[true, true, true, true, true, true, true, true, true, true, true, true, true, true, false] rfl rfl (any_of HT_.out (by kernel_rfl)) (fun _ _ _ h => h) (Or.inl ⟨by rfl, ?_⟩) ?_ ?_
            rotate_left
            · intro w'
              go_simp
              with_reducible rfl
            rotate_left
            · simp only [Act.put, List.setIfInBounds_toArray, List.set_cons_zero, List.set_cons_succ, i64_w, i32_w]
              rfl
            refine pure_ (i := 14) (N := some 3) (v := ?_) (a' := ?_) #[true, true, true, true, true, true, true, true, true, true, true, true, true, true, true] rfl rfl (any_of HT_.out (by kernel_rfl)) (fun _ _ _ h => h) (Or.inl ⟨by rfl, ?_⟩) ?_ ?_
            rotate_left
            · intro w'
              go_simp
              with_reducible rfl
            rotate_left
            · simp only [Act.put, List.setIfInBounds_toArray, List.set_cons_zero, List.set_cons_succ, i64_w, i32_w]
              rfl
            refine done_ (done_of HT_.out (by kernel_rfl)) ?_
            try go_wp2
            go_ret2
            exact ⟨by first | rfl | (simp [errW_none, errW_some] <;> rfl) | (simp [*, errW_none, errW_some] <;> rfl), by repeat (first | (with_reducible first | exact HB.out | apply below_alloc | apply pw_below_drewN | apply below_drew1 | refine below_set ?_ GE139.out) | exact HB.out)⟩
          · rw [if_neg c9] at H
            exact absurd H (by simp)
        · rw [if_neg c7] at H
          exact absurd H (by simp)
      · rw [if_neg c6] at H
        exact absurd H (by simp)
    · rw [if_neg c4] at H
      exact absurd H (by simp)
  · rw [if_neg (show ¬ (some q141).isNone = true by simp)] at H
    try dsimp only [Option.getD_some] at H
    try simp only [errW_none, errW_some]
    simp only [Option.some.injEq, Prod.mk.injEq] at H
    obtain ⟨rfl, rfl⟩ := H
    go_enter Tryz.func26, Tryz.ntmps26
    go_wp2_with (first | ((with_reducible refine gate_dst (N := 1) rfl ?_); refine box_event ?hg (N := 1) ?hd (cs := #[.int .i64 a0_0, .int .i64 a0_1, .int .i64 a0_2]) (t := 26) ?hr ?_; (case hd => rfl); (case hg => rfl); (case hr => first | (go_simp; done) | (go_simp; rfl)); intro gb139 hg w17 hbox hb; have n0_ := Aside0.mk (below_step (by repeat (first | (with_reducible first | exact HB.out | apply below_alloc | apply pw_below_drewN | apply below_drew1) | exact HB.out)) hb); have n1_ := Aside0.mk (hbox); have n2_ := Aside0.mk ((by rw [hg]; exact (below_size (by repeat (first | (with_reducible first | exact HB.out | apply below_alloc | apply pw_below_drewN | apply below_drew1) | exact HB.out))) : w.heap.size ≤ gb139)); have n3_ := Aside0.mk ((by rw [hg]; exact (below_size (by repeat (first | (with_reducible first | exact HB.out | apply below_alloc | apply pw_below_drewN | apply below_drew1) | exact HB.out))) : w.heap.size ≤ gb139)); clear HB; have HB := n0_; have BK139 := n1_; have GW139 := n2_; have GE139 := n3_; clear n0_ n1_ n2_ n3_; clear hb hbox hg; have hcz18_0 : w17.cell? ⟨gb139, 0, none⟩ = some (.int .i64 a0_0) := (blk_cell BK139.out 0).trans rfl; have hcz18_1 : w17.cell? ⟨gb139, 1, none⟩ = some (.int .i64 a0_1) := (blk_cell BK139.out 1).trans rfl; have hcz18_2 : w17.cell? ⟨gb139, 2, none⟩ = some (.int .i64 a0_2) := (blk_cell BK139.out 2).trans rfl; have hfz18_0 := blk_frozen BK139.out 0; have hfz18_1 := blk_frozen BK139.out 1; have hfz18_2 := blk_frozen BK139.out 2) | ((with_reducible refine gate_callee (f := 22) rfl ?_); refine goesL_ (some 6) rfl rfl Tryz.func22 (by kernel_rfl) rfl #[.agg #[.int .i64 a0_0, .int .i64 a0_1, .int .i64 a0_2]] rfl (by (try simp only [List.map_toArray, List.map_cons, List.map_nil]); first | done | rfl | (simp only [List.length_drop, List.length_take]; rfl)) ?_; (with_reducible refine (civil_Check.calls k a0_0 a0_1 a0_2 (some q141) _ A2.out).mono ?_); rintro e w19 ⟨rfl, hb⟩; refine ⟨_, rfl, ?_⟩; have n0_ := Aside0.mk (blk_below (g := gb139) (o := .cells #[.int .i64 a0_0, .int .i64 a0_1, .int .i64 a0_2] 26 (0, 0)) (by (with_reducible repeat (first | refine blk_drewN ?_ _ | refine blk_drew ?_ | refine blk_alloc ?_ _)); exact BK139.out) hb); have n1_ := Aside0.mk (below_step (by repeat (first | (with_reducible first | exact HB.out | apply below_alloc | apply pw_below_drewN | apply below_drew1 | refine below_set ?_ GE139.out) | exact HB.out)) hb); clear BK139; clear HB; have BK139 := n0_; have HB := n1_; clear n0_ n1_; (try clear hb); (try clear hb2); (try clear hk); (try clear hi); (try simp only [errW_none, errW_some])))
    go_ret2
    exact ⟨by first | rfl | (simp [errW_none, errW_some] <;> rfl) | (simp [*, errW_none, errW_some] <;> rfl), by repeat (first | (with_reducible first | exact HB.out | apply below_alloc | apply pw_below_drewN | apply below_drew1 | refine below_set ?_ GE139.out) | exact HB.out)⟩

end Go.Proofs.YtfjifhkgifefeaaGreatDoor.PA
end

section
/- What the printed civil.Text answers: the ten signs of a date that may be. -/
namespace Go.Proofs.YtfjifhkgifefeaaGreatDoor.CivP
open Go.RowKit Go.Proofs.YtfjifhkgifefeaaGreatDoor.PA Go.Proofs.YtfjifhkgifefeaaGreatDoor.CivM Go.Proofs.YtfjifhkgifefeaaGreatDoor.StrM Go.Proofs.YtfjifhkgifefeaaGreatDoor.Giv Go.Proofs.YtfjifhkgifefeaaGreatDoorW.PrintWords

theorem ba_app (a b : List UInt8) : (⟨a.toArray⟩ : ByteArray) ++ ⟨b.toArray⟩ = ⟨(a ++ b).toArray⟩ := by
  apply ByteArray.ext; simp [ByteArray.data_append]
theorem ba_size (a : List UInt8) : (⟨a.toArray⟩ : ByteArray).size = a.length := by simp [ByteArray.size]
theorem itoa_len (n : Int) (w : Nat) (h0 : 0 ≤ n) (h : (n ≤ 99 ∧ 2 ≤ w) ∨ (n ≤ 9999 ∧ 4 ≤ w)) : (Lib.itoa n).length ≤ w := by
  obtain ⟨u, rfl⟩ : ∃ u : Nat, n = u := ⟨n.toNat, by omega⟩
  unfold Lib.itoa
  rw [if_neg (by omega), Int.toNat_natCast]
  by_cases a : u < 10
  · rw [dd1 u a]; simp; omega
  by_cases b : u < 100
  · rw [dd2 u (by omega) b]; simp; omega
  by_cases c : u < 1000
  · rw [dd3 u (by omega) c]; simp; omega
  · rw [dd4 u (by omega) (by omega)]; simp; omega
theorem digits (n : Int) (w : Nat) (h0 : 0 ≤ n) (h : (n ≤ 99 ∧ 2 ≤ w) ∨ (n ≤ 9999 ∧ 4 ≤ w)) (hw : w ≤ 100) : civil_digits.f n w = some ⟨(padded w n).toArray⟩ := by
  have hl := itoa_len n w h0 h
  unfold civil_digits.f strconv_Itoa.f
  rw [if_pos ⟨by omega, by omega⟩]
  simp only [Option.bind_some, ba_size]
  rw [wid (by omega) (by omega)]
  unfold strings_Repeat.f
  have e1 : ((w : Int) - ((Lib.itoa n).length : Int)).toNat = w - (Lib.itoa n).length := by omega
  rw [e1]
  have e2 : (⟨#[48]⟩ : ByteArray).size = 1 := rfl
  rw [e2, if_pos ⟨by omega, by omega, by omega⟩]
  simp only [Option.bind_some]
  rw [ba_size, ba_app]
  have e4 : (Lib.repeatL [48] (w - (Lib.itoa n).length)).length = 1 * (w - (Lib.itoa n).length) := by simp [Lib.repeatL_length]
  rw [e4, if_pos (by omega)]
  rfl
theorem padded_len2 (n : Int) (h0 : 0 ≤ n) (h1 : n ≤ 99) : (padded 2 n).length = 2 := by rw [padded2 n h0 h1]; rfl
theorem padded_len4 (n : Int) (h0 : 0 ≤ n) (h1 : n ≤ 9999) : (padded 4 n).length = 4 := by rw [padded4 n h0 h1]; rfl
theorem text (k : Nat) (y m d : Int) (hk : 2 ≤ k) : civil_Text.f k y m d = some (if vld y m d then (⟨(dtext y m d).toArray⟩, none) else (⟨#[]⟩, some 1)) := by
  unfold civil_Text.f
  rw [check k y m d hk]
  simp only [Option.bind_some]
  by_cases v : vld y m d
  · rw [if_pos v, if_pos v]
    obtain ⟨h1, h2, h3, h4, h5, h6⟩ := id v
    have hd := dim_bd y m
    have D4 := digits y 4 (by omega) (.inr ⟨h2, by omega⟩) (by omega)
    have D2 := digits m 2 (by omega) (.inl ⟨by omega, by omega⟩) (by omega)
    have D3 := digits d 2 (by omega) (.inl ⟨by omega, by omega⟩) (by omega)
    simp only [Option.isNone_none, if_true]
    have L4 := padded_len4 y (by omega) h2
    have L2 := padded_len2 m (by omega) (by omega)
    have L3 := padded_len2 d (by omega) (by omega)
    have e45 : (⟨#[45]⟩ : ByteArray) = ⟨([45] : List UInt8).toArray⟩ := rfl
    rw [show ((4 : Nat) : Int) = 4 from rfl] at D4
    rw [show ((2 : Nat) : Int) = 2 from rfl] at D2 D3
    simp only [D4, D2, D3, Option.bind_some, e45, ba_app, ba_size, List.length_append, L4, L2, L3, List.length_cons, List.length_nil]
    rw [if_pos (by omega), if_pos (by omega), if_pos (by omega), if_pos (by omega)]
    simp [dtext]
  · rw [if_neg v, if_neg v]
    simp
end Go.Proofs.YtfjifhkgifefeaaGreatDoor.CivP
end

section
/- civil.Parse by its contract: the date of a text, or the error 3. Its text is walked; strings.Split and strconv.Atoi by their contracts. -/
namespace Go.Proofs.YtfjifhkgifefeaaGreatDoor.Giv
open Go.RowKit Go.Proofs.YtfjifhkgifefeaaGreatDoor Go.Proofs.YtfjifhkgifefeaaGreatDoor.StrM Go.Proofs.YtfjifhkgifefeaaGreatDoor.CivM Go.Proofs.YtfjifhkgifefeaaGreatDoor.PA Go.Proofs.YtfjifhkgifefeaaGreatDoorW.PrintWords

theorem atoi_ok (p : ByteArray) (hp : p.size ≤ 4294967280) (v : Int) (h : Lib.atoiAll p.data.toList = .ok v) (w : World) :
    Calls Tryz.prog 97 #[.string p] w fun e w' => e = .returned (.tuple #[.int .i64 v, .nilIface]) ∧ Below w.heap.size w w' := by
  refine (Tryz.strconv_Atoi_ok p (by omega) v h w).mono ?_
  rintro e w' ⟨rfl, rfl | ⟨t, rfl⟩⟩
  · exact ⟨rfl, Below.refl _ _⟩
  · exact ⟨rfl, Lib.bytesWorld_below _ _ _⟩
theorem atoi_bad (p : ByteArray) (hp : p.size ≤ 4294967280) (h : ∀ v, Lib.atoiAll p.data.toList ≠ .ok v) (w : World) (hl : Laid w) :
    Calls Tryz.prog 97 #[.string p] w fun e w' => ∃ u N, e = .returned (.tuple #[.int .i64 u, .iface 276 (.pointer (some ⟨N, 0, none⟩))]) ∧ Below w.heap.size w w' := by
  rcases hc : Lib.atoiAll p.data.toList with v | _ | _
  · exact absurd hc (h v)
  · obtain ⟨tp, q, e⟩ := hl.syn
    refine (Any.strconv_Atoi_syntax Tryz.laysC172 p (by omega) hc _ w e (.inr ⟨_, _, rfl⟩)).mono ?_
    rintro e w' ⟨N, rfl, -, -, hb⟩
    exact ⟨_, N, rfl, hb⟩
  · obtain ⟨tp, q, e⟩ := hl.rng
    refine (Tryz.strconv_Atoi_range p (by omega) hc _ w e (.inr ⟨_, _, rfl⟩)).mono ?_
    rintro e w' ⟨N, rfl, -, -, hb⟩
    exact ⟨_, N, rfl, hb⟩
/-- strings.Split at a byte: the new row, under a letter of its own. -/
theorem split_at (s : ByteArray) (hs : s.size < 4294967281) (l : List ByteArray) (h : Lib.splitB ⟨#[45]⟩ 0 (Lib.countB s ⟨#[45]⟩) s = l) (w : World) (hl : Laid w) :
    Calls Tryz.prog 96 #[.string s, .string ⟨#[45]⟩] w fun e w' => ∃ g, e = .returned (.slice (some ⟨g, 0, none⟩) l.length l.length) ∧ w.heap.size ≤ g ∧ w'.heap[g]? = some (.cells (l.map Value.string).toArray 9 (0, 0)) ∧ Below w.heap.size w w' := by
  refine (Tryz.strings_Split_shaped s ⟨#[45]⟩ w hl.shaped hs (by simp [ByteArray.size])).mono ?_
  rintro e w' ⟨rfl, rfl⟩
  have hc := Lib.splitB_all ⟨#[45]⟩ (by simp [ByteArray.size]) 0 _ s rfl
  rw [h] at hc
  rw [h, ← hc]
  exact ⟨w.heap.size, rfl, Nat.le_refl _, blk_new _ _, (Below.refl _ _).alloc (Nat.le_refl _) _⟩

def civil_Parse.f (a0 : ByteArray) : Option (Int × Int × Int × Option Int) :=
  if a0.size < 4294967281 then some (match dateOf a0.data.toList with | some (y, m, d) => (y, m, d, none) | none => (0, 0, 0, some 3)) else none

def Parsed (B : Nat) (w : World) (y m d : Int) (r : Option Int) (e : Ending) (w' : World) : Prop :=
  e = .returned (.tuple #[.agg #[.int .i64 y, .int .i64 m, .int .i64 d], errW r]) ∧ Below B w w'

theorem split_3 (s : ByteArray) (hs : s.size < 4294967281) (p0 p1 p2 : ByteArray) (h : Lib.splitB ⟨#[45]⟩ 0 (Lib.countB s ⟨#[45]⟩) s = [p0, p1, p2]) (w : World) (hl : Laid w) :
    Calls Tryz.prog 96 #[.string s, .string ⟨#[45]⟩] w fun e w' => ∃ g, e = .returned (.slice (some ⟨g, 0, none⟩) 3 3) ∧ w.heap.size ≤ g ∧ w'.heap[g]? = some (.cells #[.string p0, .string p1, .string p2] 9 (0, 0)) ∧ Below w.heap.size w w' :=
  split_at s hs [p0, p1, p2] h w hl

set_option maxHeartbeats 4000000 in
set_option maxRecDepth 100000 in
theorem parse_len (s : ByteArray) (w : World) (hl : Laid w) (hs : s.size < 4294967281) (l : List ByteArray) (h : Lib.splitB ⟨#[45]⟩ 0 (Lib.countB s ⟨#[45]⟩) s = l) (hn : ((l.length : Int) == 3) = false) :
    Calls Tryz.prog 27 #[.string s] w (Parsed w.heap.size w 0 0 0 (some 3)) := by
  have hn2 : ((l.length : Int) != 3) = true := by simp [bne, hn]
  have H := Lib.hid h
  clear h
  have HB := Aside0.mk (Below.refl w.heap.size w)
  have HL := Aside0.mk hl
  clear hl
  go_enter Tryz.func27, Tryz.ntmps27
  go_wp2_with (go_at_call 96; (refine (split_at s hs l H.out _ (Laid.below HL.out (by repeat (first | (with_reducible first | exact HB.out | apply below_alloc | apply pw_below_drewN | apply below_drew1 | refine below_set ?_ GA.out | refine below_set ?_ (Nat.le_refl _)) | exact HB.out)))).mono ?_); rintro e w1 ⟨g, rfl, hg, hc, hb⟩; have BK := Aside0.mk (blk_below (blk_new w _) hb); have n0_ := Aside0.mk (below_step (below_alloc HB.out _) hb); clear HB; have HB := n0_; clear n0_; clear hb hc hg; have z0 : w1.cell? ⟨w.heap.size, 0, none⟩ = some (.int .i64 0) := (blk_cell BK.out 0).trans rfl; have z1 : w1.cell? ⟨w.heap.size, 1, none⟩ = some (.int .i64 0) := (blk_cell BK.out 1).trans rfl; have z2 : w1.cell? ⟨w.heap.size, 2, none⟩ = some (.int .i64 0) := (blk_cell BK.out 2).trans rfl; have f0 := blk_frozen BK.out 0; have f1 := blk_frozen BK.out 1; have f2 := blk_frozen BK.out 2)
  refine bodyPost_ret (results_ct rfl _ _ w.heap.size 26 #[.int .i64 0, .int .i64 0, .int .i64 0] (0, 0) _ rfl (by refine blk_put (cs := #[.int .i64 0, .int .i64 0, .int .i64 0]) ?_ 2 _ rfl; refine blk_put (cs := #[.int .i64 0, .int .i64 0, .int .i64 0]) ?_ 1 _ rfl; refine blk_put (cs := #[.int .i64 0, .int .i64 0, .int .i64 0]) ?_ 0 _ rfl; exact BK.out) Tryz.underlying26 rfl (by kernel_rfl)) rfl ?_
  exact ⟨rfl, by repeat (first | exact HB.out | refine below_set ?_ (Nat.le_refl _))⟩

set_option maxHeartbeats 8000000 in
set_option maxRecDepth 100000 in
theorem parse_bad0 (s : ByteArray) (w : World) (hl : Laid w) (hs : s.size < 4294967281) (p0 p1 p2 : ByteArray) (h : Lib.splitB ⟨#[45]⟩ 0 (Lib.countB s ⟨#[45]⟩) s = [p0, p1, p2]) (h0s : p0.size ≤ 4294967280) (h1s : p1.size ≤ 4294967280) (h2s : p2.size ≤ 4294967280) (h0 : ∀ v, Lib.atoiAll p0.data.toList ≠ .ok v) :
    Calls Tryz.prog 27 #[.string s] w (Parsed w.heap.size w 0 0 0 (some 3)) := by
  have H := Lib.hid h
  clear h
  have n_ := Lib.hid h0
  clear h0
  have h0 := n_
  clear n_
  have HB := Aside0.mk (Below.refl w.heap.size w)
  have HL := Aside0.mk hl
  clear hl
  go_enter Tryz.func27, Tryz.ntmps27
  go_wp2_with (first | (go_at_call 96; (refine (split_3 s hs p0 p1 p2 H.out _ (Laid.below HL.out (by repeat (first | (with_reducible first | exact HB.out | apply below_alloc | apply pw_below_drewN | apply below_drew1 | refine below_set ?_ GA.out | refine below_set ?_ (Nat.le_refl _)) | exact HB.out)))).mono ?_); rintro e w1 ⟨g, rfl, hg, hc, hb⟩; have BG := Aside0.mk hc; have BK := Aside0.mk (blk_below (blk_new w _) hb); have n0_ := Aside0.mk (below_step (below_alloc HB.out _) hb); clear HB; have HB := n0_; clear n0_; clear hb hc hg; have z0 : w1.cell? ⟨w.heap.size, 0, none⟩ = some (.int .i64 0) := (blk_cell BK.out 0).trans rfl; have z1 : w1.cell? ⟨w.heap.size, 1, none⟩ = some (.int .i64 0) := (blk_cell BK.out 1).trans rfl; have z2 : w1.cell? ⟨w.heap.size, 2, none⟩ = some (.int .i64 0) := (blk_cell BK.out 2).trans rfl; have f0 := blk_frozen BK.out 0; have f1 := blk_frozen BK.out 1; have f2 := blk_frozen BK.out 2) | ((with_reducible refine gate_dst (N := 5) rfl ?_); refine box_event ?hg (N := 5) ?hd (cs := #[.int .i64 0, .int .i64 0, .int .i64 0]) (t := 164) ?hr ?_; (case hd => rfl); (case hg => rfl); (case hr => first | (go_simp; done) | (go_simp; rfl)); intro ga hga w2 hbox hb2; have GA := Aside0.mk (show w.heap.size ≤ ga by rw [hga]; exact below_size HB.out); have n0_ := Aside0.mk (below_step HB.out hb2); have n1_ := Aside0.mk (blk_below BK.out hb2); have n2_ := Aside0.mk (blk_below BG.out hb2); have BA := Aside0.mk hbox; clear HB BK BG z0 z1 z2 f0 f1 f2; have HB := n0_; have BK := n1_; have BG := n2_; clear n0_ n1_ n2_; clear hb2 hbox hga; have NKA := Aside0.mk (blk_ne BK.out BA.out (by decide)); have NGA := Aside0.mk (blk_ne BG.out BA.out (by decide)); have y0 : w2.cell? ⟨g, 0, none⟩ = some (.string p0) := (blk_cell BG.out 0).trans rfl; have y1 : w2.cell? ⟨g, 1, none⟩ = some (.string p1) := (blk_cell BG.out 1).trans rfl; have y2 : w2.cell? ⟨g, 2, none⟩ = some (.string p2) := (blk_cell BG.out 2).trans rfl; have x0 : w2.cell? ⟨ga, 0, none⟩ = some (.int .i64 0) := (blk_cell BA.out 0).trans rfl; have x1 : w2.cell? ⟨ga, 1, none⟩ = some (.int .i64 0) := (blk_cell BA.out 1).trans rfl; have x2 : w2.cell? ⟨ga, 2, none⟩ = some (.int .i64 0) := (blk_cell BA.out 2).trans rfl; have q0 := blk_frozen BA.out 0; have q1 := blk_frozen BA.out 1; have q2 := blk_frozen BA.out 2))
  refine wp_loop_rounds 1 ?_
  rw [rounds_succ]
  go_wp2_with (first | (go_at_call 97; (with_reducible refine (atoi_bad p0 h0s h0.out _ (Laid.below HL.out (by repeat (first | (with_reducible first | exact HB.out | apply below_alloc | apply pw_below_drewN | apply below_drew1 | refine below_set ?_ GA.out | refine below_set ?_ (Nat.le_refl _)) | exact HB.out)))).mono ?_); rintro e w3 ⟨u, N, rfl, hb⟩; have n0_ := Aside0.mk (below_step HB.out hb); have n1_ := Aside0.mk (blk_below BK.out hb); have n2_ := Aside0.mk (blk_below BG.out hb); have n3_ := Aside0.mk (blk_below BA.out hb); clear HB BK BG BA y0 y1 y2 x0 x1 x2 q0 q1 q2; have HB := n0_; have BK := n1_; have BG := n2_; have BA := n3_; clear n0_ n1_ n2_ n3_; clear hb; have y0 : w3.cell? ⟨g, 0, none⟩ = some (.string p0) := (blk_cell BG.out 0).trans rfl; have y1 : w3.cell? ⟨g, 1, none⟩ = some (.string p1) := (blk_cell BG.out 1).trans rfl; have y2 : w3.cell? ⟨g, 2, none⟩ = some (.string p2) := (blk_cell BG.out 2).trans rfl; have x0 : w3.cell? ⟨ga, 0, none⟩ = some (.int .i64 0) := (blk_cell BA.out 0).trans rfl; have x1 : w3.cell? ⟨ga, 1, none⟩ = some (.int .i64 0) := (blk_cell BA.out 1).trans rfl; have x2 : w3.cell? ⟨ga, 2, none⟩ = some (.int .i64 0) := (blk_cell BA.out 2).trans rfl; have q0 := blk_frozen BA.out 0; have q1 := blk_frozen BA.out 1; have q2 := blk_frozen BA.out 2; have z0 : w3.cell? ⟨w.heap.size, 0, none⟩ = some (.int .i64 0) := (blk_cell BK.out 0).trans rfl; have z1 : w3.cell? ⟨w.heap.size, 1, none⟩ = some (.int .i64 0) := (blk_cell BK.out 1).trans rfl; have z2 : w3.cell? ⟨w.heap.size, 2, none⟩ = some (.int .i64 0) := (blk_cell BK.out 2).trans rfl; have f0 := blk_frozen BK.out 0; have f1 := blk_frozen BK.out 1; have f2 := blk_frozen BK.out 2))
  refine bodyPost_ret (results_ct rfl _ _ w.heap.size 26 #[.int .i64 0, .int .i64 0, .int .i64 0] (0, 0) _ rfl (by refine blk_put (cs := #[.int .i64 0, .int .i64 0, .int .i64 0]) ?_ 2 _ rfl; refine blk_put (cs := #[.int .i64 0, .int .i64 0, .int .i64 0]) ?_ 1 _ rfl; refine blk_put (cs := #[.int .i64 0, .int .i64 0, .int .i64 0]) ?_ 0 _ rfl; exact BK.out) Tryz.underlying26 rfl (by kernel_rfl)) rfl ?_
  exact ⟨rfl, by repeat (first | exact HB.out | refine below_set ?_ (Nat.le_refl _))⟩

set_option maxHeartbeats 8000000 in
set_option maxRecDepth 100000 in
theorem parse_bad1 (s : ByteArray) (w : World) (hl : Laid w) (hs : s.size < 4294967281) (p0 p1 p2 : ByteArray) (h : Lib.splitB ⟨#[45]⟩ 0 (Lib.countB s ⟨#[45]⟩) s = [p0, p1, p2]) (h0s : p0.size ≤ 4294967280) (h1s : p1.size ≤ 4294967280) (h2s : p2.size ≤ 4294967280) (v0 : Int) (h0 : Lib.atoiAll p0.data.toList = .ok v0) (h1 : ∀ v, Lib.atoiAll p1.data.toList ≠ .ok v) :
    Calls Tryz.prog 27 #[.string s] w (Parsed w.heap.size w 0 0 0 (some 3)) := by
  have H := Lib.hid h
  clear h
  have n_ := Lib.hid h0
  clear h0
  have h0 := n_
  clear n_
  have n_ := Lib.hid h1
  clear h1
  have h1 := n_
  clear n_
  have HB := Aside0.mk (Below.refl w.heap.size w)
  have HL := Aside0.mk hl
  clear hl
  go_enter Tryz.func27, Tryz.ntmps27
  go_wp2_with (first | (go_at_call 96; (refine (split_3 s hs p0 p1 p2 H.out _ (Laid.below HL.out (by repeat (first | (with_reducible first | exact HB.out | apply below_alloc | apply pw_below_drewN | apply below_drew1 | refine below_set ?_ GA.out | refine below_set ?_ (Nat.le_refl _)) | exact HB.out)))).mono ?_); rintro e w1 ⟨g, rfl, hg, hc, hb⟩; have BG := Aside0.mk hc; have BK := Aside0.mk (blk_below (blk_new w _) hb); have n0_ := Aside0.mk (below_step (below_alloc HB.out _) hb); clear HB; have HB := n0_; clear n0_; clear hb hc hg; have z0 : w1.cell? ⟨w.heap.size, 0, none⟩ = some (.int .i64 0) := (blk_cell BK.out 0).trans rfl; have z1 : w1.cell? ⟨w.heap.size, 1, none⟩ = some (.int .i64 0) := (blk_cell BK.out 1).trans rfl; have z2 : w1.cell? ⟨w.heap.size, 2, none⟩ = some (.int .i64 0) := (blk_cell BK.out 2).trans rfl; have f0 := blk_frozen BK.out 0; have f1 := blk_frozen BK.out 1; have f2 := blk_frozen BK.out 2) | ((with_reducible refine gate_dst (N := 5) rfl ?_); refine box_event ?hg (N := 5) ?hd (cs := #[.int .i64 0, .int .i64 0, .int .i64 0]) (t := 164) ?hr ?_; (case hd => rfl); (case hg => rfl); (case hr => first | (go_simp; done) | (go_simp; rfl)); intro ga hga w2 hbox hb2; have GA := Aside0.mk (show w.heap.size ≤ ga by rw [hga]; exact below_size HB.out); have n0_ := Aside0.mk (below_step HB.out hb2); have n1_ := Aside0.mk (blk_below BK.out hb2); have n2_ := Aside0.mk (blk_below BG.out hb2); have BA := Aside0.mk hbox; clear HB BK BG z0 z1 z2 f0 f1 f2; have HB := n0_; have BK := n1_; have BG := n2_; clear n0_ n1_ n2_; clear hb2 hbox hga; have NKA := Aside0.mk (blk_ne BK.out BA.out (by decide)); have NGA := Aside0.mk (blk_ne BG.out BA.out (by decide)); have y0 : w2.cell? ⟨g, 0, none⟩ = some (.string p0) := (blk_cell BG.out 0).trans rfl; have y1 : w2.cell? ⟨g, 1, none⟩ = some (.string p1) := (blk_cell BG.out 1).trans rfl; have y2 : w2.cell? ⟨g, 2, none⟩ = some (.string p2) := (blk_cell BG.out 2).trans rfl; have x0 : w2.cell? ⟨ga, 0, none⟩ = some (.int .i64 0) := (blk_cell BA.out 0).trans rfl; have x1 : w2.cell? ⟨ga, 1, none⟩ = some (.int .i64 0) := (blk_cell BA.out 1).trans rfl; have x2 : w2.cell? ⟨ga, 2, none⟩ = some (.int .i64 0) := (blk_cell BA.out 2).trans rfl; have q0 := blk_frozen BA.out 0; have q1 := blk_frozen BA.out 1; have q2 := blk_frozen BA.out 2))
  refine wp_loop_rounds 2 ?_
  rw [rounds_succ]
  go_wp2_with (first | (go_at_call 97; (with_reducible refine (atoi_ok p0 h0s v0 h0.out _).mono ?_); rintro e w3 ⟨rfl, hb⟩; have n0_ := Aside0.mk (below_step HB.out hb); have n1_ := Aside0.mk (blk_below BK.out hb); have n2_ := Aside0.mk (blk_below BG.out hb); have n3_ := Aside0.mk (blk_below BA.out hb); clear HB BK BG BA y0 y1 y2 x0 x1 x2 q0 q1 q2; have HB := n0_; have BK := n1_; have BG := n2_; have BA := n3_; clear n0_ n1_ n2_ n3_; clear hb; have y0 : w3.cell? ⟨g, 0, none⟩ = some (.string p0) := (blk_cell BG.out 0).trans rfl; have y1 : w3.cell? ⟨g, 1, none⟩ = some (.string p1) := (blk_cell BG.out 1).trans rfl; have y2 : w3.cell? ⟨g, 2, none⟩ = some (.string p2) := (blk_cell BG.out 2).trans rfl; have x0 : w3.cell? ⟨ga, 0, none⟩ = some (.int .i64 0) := (blk_cell BA.out 0).trans rfl; have x1 : w3.cell? ⟨ga, 1, none⟩ = some (.int .i64 0) := (blk_cell BA.out 1).trans rfl; have x2 : w3.cell? ⟨ga, 2, none⟩ = some (.int .i64 0) := (blk_cell BA.out 2).trans rfl; have q0 := blk_frozen BA.out 0; have q1 := blk_frozen BA.out 1; have q2 := blk_frozen BA.out 2; have z0 : w3.cell? ⟨w.heap.size, 0, none⟩ = some (.int .i64 0) := (blk_cell BK.out 0).trans rfl; have z1 : w3.cell? ⟨w.heap.size, 1, none⟩ = some (.int .i64 0) := (blk_cell BK.out 1).trans rfl; have z2 : w3.cell? ⟨w.heap.size, 2, none⟩ = some (.int .i64 0) := (blk_cell BK.out 2).trans rfl; have f0 := blk_frozen BK.out 0; have f1 := blk_frozen BK.out 1; have f2 := blk_frozen BK.out 2))
  rw [rounds_succ]
  go_wp2_with (first | (go_at_call 97; (with_reducible refine (atoi_bad p1 h1s h1.out _ (Laid.below HL.out (by repeat (first | (with_reducible first | exact HB.out | apply below_alloc | apply pw_below_drewN | apply below_drew1 | refine below_set ?_ GA.out | refine below_set ?_ (Nat.le_refl _)) | exact HB.out)))).mono ?_); rintro e w4 ⟨u, N, rfl, hb⟩; have n0_ := Aside0.mk (below_step (below_set HB.out GA.out) hb); have n1_ := Aside0.mk (blk_below (blk_far BK.out NKA.out _) hb); have n2_ := Aside0.mk (blk_below (blk_far BG.out NGA.out _) hb); have n3_ := Aside0.mk (blk_below (blk_put (cs' := #[.int .i64 v0, .int .i64 0, .int .i64 0]) BA.out 0 (.int .i64 v0) rfl) hb); clear HB BK BG BA y0 y1 y2 x0 x1 x2 q0 q1 q2; have HB := n0_; have BK := n1_; have BG := n2_; have BA := n3_; clear n0_ n1_ n2_ n3_; clear hb; have y0 : w4.cell? ⟨g, 0, none⟩ = some (.string p0) := (blk_cell BG.out 0).trans rfl; have y1 : w4.cell? ⟨g, 1, none⟩ = some (.string p1) := (blk_cell BG.out 1).trans rfl; have y2 : w4.cell? ⟨g, 2, none⟩ = some (.string p2) := (blk_cell BG.out 2).trans rfl; have x0 : w4.cell? ⟨ga, 0, none⟩ = some (.int .i64 v0) := (blk_cell BA.out 0).trans rfl; have x1 : w4.cell? ⟨ga, 1, none⟩ = some (.int .i64 0) := (blk_cell BA.out 1).trans rfl; have x2 : w4.cell? ⟨ga, 2, none⟩ = some (.int .i64 0) := (blk_cell BA.out 2).trans rfl; have q0 := blk_frozen BA.out 0; have q1 := blk_frozen BA.out 1; have q2 := blk_frozen BA.out 2; have z0 : w4.cell? ⟨w.heap.size, 0, none⟩ = some (.int .i64 0) := (blk_cell BK.out 0).trans rfl; have z1 : w4.cell? ⟨w.heap.size, 1, none⟩ = some (.int .i64 0) := (blk_cell BK.out 1).trans rfl; have z2 : w4.cell? ⟨w.heap.size, 2, none⟩ = some (.int .i64 0) := (blk_cell BK.out 2).trans rfl; have f0 := blk_frozen BK.out 0; have f1 := blk_frozen BK.out 1; have f2 := blk_frozen BK.out 2))
  refine bodyPost_ret (results_ct rfl _ _ w.heap.size 26 #[.int .i64 0, .int .i64 0, .int .i64 0] (0, 0) _ rfl (by refine blk_put (cs := #[.int .i64 0, .int .i64 0, .int .i64 0]) ?_ 2 _ rfl; refine blk_put (cs := #[.int .i64 0, .int .i64 0, .int .i64 0]) ?_ 1 _ rfl; refine blk_put (cs := #[.int .i64 0, .int .i64 0, .int .i64 0]) ?_ 0 _ rfl; exact BK.out) Tryz.underlying26 rfl (by kernel_rfl)) rfl ?_
  exact ⟨rfl, by repeat (first | exact HB.out | refine below_set ?_ (Nat.le_refl _))⟩

set_option maxHeartbeats 8000000 in
set_option maxRecDepth 100000 in
theorem parse_bad2 (s : ByteArray) (w : World) (hl : Laid w) (hs : s.size < 4294967281) (p0 p1 p2 : ByteArray) (h : Lib.splitB ⟨#[45]⟩ 0 (Lib.countB s ⟨#[45]⟩) s = [p0, p1, p2]) (h0s : p0.size ≤ 4294967280) (h1s : p1.size ≤ 4294967280) (h2s : p2.size ≤ 4294967280) (v0 : Int) (h0 : Lib.atoiAll p0.data.toList = .ok v0) (v1 : Int) (h1 : Lib.atoiAll p1.data.toList = .ok v1) (h2 : ∀ v, Lib.atoiAll p2.data.toList ≠ .ok v) :
    Calls Tryz.prog 27 #[.string s] w (Parsed w.heap.size w 0 0 0 (some 3)) := by
  have H := Lib.hid h
  clear h
  have n_ := Lib.hid h0
  clear h0
  have h0 := n_
  clear n_
  have n_ := Lib.hid h1
  clear h1
  have h1 := n_
  clear n_
  have n_ := Lib.hid h2
  clear h2
  have h2 := n_
  clear n_
  have HB := Aside0.mk (Below.refl w.heap.size w)
  have HL := Aside0.mk hl
  clear hl
  go_enter Tryz.func27, Tryz.ntmps27
  go_wp2_with (first | (go_at_call 96; (refine (split_3 s hs p0 p1 p2 H.out _ (Laid.below HL.out (by repeat (first | (with_reducible first | exact HB.out | apply below_alloc | apply pw_below_drewN | apply below_drew1 | refine below_set ?_ GA.out | refine below_set ?_ (Nat.le_refl _)) | exact HB.out)))).mono ?_); rintro e w1 ⟨g, rfl, hg, hc, hb⟩; have BG := Aside0.mk hc; have BK := Aside0.mk (blk_below (blk_new w _) hb); have n0_ := Aside0.mk (below_step (below_alloc HB.out _) hb); clear HB; have HB := n0_; clear n0_; clear hb hc hg; have z0 : w1.cell? ⟨w.heap.size, 0, none⟩ = some (.int .i64 0) := (blk_cell BK.out 0).trans rfl; have z1 : w1.cell? ⟨w.heap.size, 1, none⟩ = some (.int .i64 0) := (blk_cell BK.out 1).trans rfl; have z2 : w1.cell? ⟨w.heap.size, 2, none⟩ = some (.int .i64 0) := (blk_cell BK.out 2).trans rfl; have f0 := blk_frozen BK.out 0; have f1 := blk_frozen BK.out 1; have f2 := blk_frozen BK.out 2) | ((with_reducible refine gate_dst (N := 5) rfl ?_); refine box_event ?hg (N := 5) ?hd (cs := #[.int .i64 0, .int .i64 0, .int .i64 0]) (t := 164) ?hr ?_; (case hd => rfl); (case hg => rfl); (case hr => first | (go_simp; done) | (go_simp; rfl)); intro ga hga w2 hbox hb2; have GA := Aside0.mk (show w.heap.size ≤ ga by rw [hga]; exact below_size HB.out); have n0_ := Aside0.mk (below_step HB.out hb2); have n1_ := Aside0.mk (blk_below BK.out hb2); have n2_ := Aside0.mk (blk_below BG.out hb2); have BA := Aside0.mk hbox; clear HB BK BG z0 z1 z2 f0 f1 f2; have HB := n0_; have BK := n1_; have BG := n2_; clear n0_ n1_ n2_; clear hb2 hbox hga; have NKA := Aside0.mk (blk_ne BK.out BA.out (by decide)); have NGA := Aside0.mk (blk_ne BG.out BA.out (by decide)); have y0 : w2.cell? ⟨g, 0, none⟩ = some (.string p0) := (blk_cell BG.out 0).trans rfl; have y1 : w2.cell? ⟨g, 1, none⟩ = some (.string p1) := (blk_cell BG.out 1).trans rfl; have y2 : w2.cell? ⟨g, 2, none⟩ = some (.string p2) := (blk_cell BG.out 2).trans rfl; have x0 : w2.cell? ⟨ga, 0, none⟩ = some (.int .i64 0) := (blk_cell BA.out 0).trans rfl; have x1 : w2.cell? ⟨ga, 1, none⟩ = some (.int .i64 0) := (blk_cell BA.out 1).trans rfl; have x2 : w2.cell? ⟨ga, 2, none⟩ = some (.int .i64 0) := (blk_cell BA.out 2).trans rfl; have q0 := blk_frozen BA.out 0; have q1 := blk_frozen BA.out 1; have q2 := blk_frozen BA.out 2))
  refine wp_loop_rounds 3 ?_
  rw [rounds_succ]
  go_wp2_with (first | (go_at_call 97; (with_reducible refine (atoi_ok p0 h0s v0 h0.out _).mono ?_); rintro e w3 ⟨rfl, hb⟩; have n0_ := Aside0.mk (below_step HB.out hb); have n1_ := Aside0.mk (blk_below BK.out hb); have n2_ := Aside0.mk (blk_below BG.out hb); have n3_ := Aside0.mk (blk_below BA.out hb); clear HB BK BG BA y0 y1 y2 x0 x1 x2 q0 q1 q2; have HB := n0_; have BK := n1_; have BG := n2_; have BA := n3_; clear n0_ n1_ n2_ n3_; clear hb; have y0 : w3.cell? ⟨g, 0, none⟩ = some (.string p0) := (blk_cell BG.out 0).trans rfl; have y1 : w3.cell? ⟨g, 1, none⟩ = some (.string p1) := (blk_cell BG.out 1).trans rfl; have y2 : w3.cell? ⟨g, 2, none⟩ = some (.string p2) := (blk_cell BG.out 2).trans rfl; have x0 : w3.cell? ⟨ga, 0, none⟩ = some (.int .i64 0) := (blk_cell BA.out 0).trans rfl; have x1 : w3.cell? ⟨ga, 1, none⟩ = some (.int .i64 0) := (blk_cell BA.out 1).trans rfl; have x2 : w3.cell? ⟨ga, 2, none⟩ = some (.int .i64 0) := (blk_cell BA.out 2).trans rfl; have q0 := blk_frozen BA.out 0; have q1 := blk_frozen BA.out 1; have q2 := blk_frozen BA.out 2; have z0 : w3.cell? ⟨w.heap.size, 0, none⟩ = some (.int .i64 0) := (blk_cell BK.out 0).trans rfl; have z1 : w3.cell? ⟨w.heap.size, 1, none⟩ = some (.int .i64 0) := (blk_cell BK.out 1).trans rfl; have z2 : w3.cell? ⟨w.heap.size, 2, none⟩ = some (.int .i64 0) := (blk_cell BK.out 2).trans rfl; have f0 := blk_frozen BK.out 0; have f1 := blk_frozen BK.out 1; have f2 := blk_frozen BK.out 2))
  rw [rounds_succ]
  go_wp2_with (first | (go_at_call 97; (with_reducible refine (atoi_ok p1 h1s v1 h1.out _).mono ?_); rintro e w4 ⟨rfl, hb⟩; have n0_ := Aside0.mk (below_step (below_set HB.out GA.out) hb); have n1_ := Aside0.mk (blk_below (blk_far BK.out NKA.out _) hb); have n2_ := Aside0.mk (blk_below (blk_far BG.out NGA.out _) hb); have n3_ := Aside0.mk (blk_below (blk_put (cs' := #[.int .i64 v0, .int .i64 0, .int .i64 0]) BA.out 0 (.int .i64 v0) rfl) hb); clear HB BK BG BA y0 y1 y2 x0 x1 x2 q0 q1 q2; have HB := n0_; have BK := n1_; have BG := n2_; have BA := n3_; clear n0_ n1_ n2_ n3_; clear hb; have y0 : w4.cell? ⟨g, 0, none⟩ = some (.string p0) := (blk_cell BG.out 0).trans rfl; have y1 : w4.cell? ⟨g, 1, none⟩ = some (.string p1) := (blk_cell BG.out 1).trans rfl; have y2 : w4.cell? ⟨g, 2, none⟩ = some (.string p2) := (blk_cell BG.out 2).trans rfl; have x0 : w4.cell? ⟨ga, 0, none⟩ = some (.int .i64 v0) := (blk_cell BA.out 0).trans rfl; have x1 : w4.cell? ⟨ga, 1, none⟩ = some (.int .i64 0) := (blk_cell BA.out 1).trans rfl; have x2 : w4.cell? ⟨ga, 2, none⟩ = some (.int .i64 0) := (blk_cell BA.out 2).trans rfl; have q0 := blk_frozen BA.out 0; have q1 := blk_frozen BA.out 1; have q2 := blk_frozen BA.out 2; have z0 : w4.cell? ⟨w.heap.size, 0, none⟩ = some (.int .i64 0) := (blk_cell BK.out 0).trans rfl; have z1 : w4.cell? ⟨w.heap.size, 1, none⟩ = some (.int .i64 0) := (blk_cell BK.out 1).trans rfl; have z2 : w4.cell? ⟨w.heap.size, 2, none⟩ = some (.int .i64 0) := (blk_cell BK.out 2).trans rfl; have f0 := blk_frozen BK.out 0; have f1 := blk_frozen BK.out 1; have f2 := blk_frozen BK.out 2))
  rw [rounds_succ]
  go_wp2_with (first | (go_at_call 97; (with_reducible refine (atoi_bad p2 h2s h2.out _ (Laid.below HL.out (by repeat (first | (with_reducible first | exact HB.out | apply below_alloc | apply pw_below_drewN | apply below_drew1 | refine below_set ?_ GA.out | refine below_set ?_ (Nat.le_refl _)) | exact HB.out)))).mono ?_); rintro e w5 ⟨u, N, rfl, hb⟩; have n0_ := Aside0.mk (below_step (below_set HB.out GA.out) hb); have n1_ := Aside0.mk (blk_below (blk_far BK.out NKA.out _) hb); have n2_ := Aside0.mk (blk_below (blk_far BG.out NGA.out _) hb); have n3_ := Aside0.mk (blk_below (blk_put (cs' := #[.int .i64 v0, .int .i64 v1, .int .i64 0]) BA.out 1 (.int .i64 v1) rfl) hb); clear HB BK BG BA y0 y1 y2 x0 x1 x2 q0 q1 q2; have HB := n0_; have BK := n1_; have BG := n2_; have BA := n3_; clear n0_ n1_ n2_ n3_; clear hb; have y0 : w5.cell? ⟨g, 0, none⟩ = some (.string p0) := (blk_cell BG.out 0).trans rfl; have y1 : w5.cell? ⟨g, 1, none⟩ = some (.string p1) := (blk_cell BG.out 1).trans rfl; have y2 : w5.cell? ⟨g, 2, none⟩ = some (.string p2) := (blk_cell BG.out 2).trans rfl; have x0 : w5.cell? ⟨ga, 0, none⟩ = some (.int .i64 v0) := (blk_cell BA.out 0).trans rfl; have x1 : w5.cell? ⟨ga, 1, none⟩ = some (.int .i64 v1) := (blk_cell BA.out 1).trans rfl; have x2 : w5.cell? ⟨ga, 2, none⟩ = some (.int .i64 0) := (blk_cell BA.out 2).trans rfl; have q0 := blk_frozen BA.out 0; have q1 := blk_frozen BA.out 1; have q2 := blk_frozen BA.out 2; have z0 : w5.cell? ⟨w.heap.size, 0, none⟩ = some (.int .i64 0) := (blk_cell BK.out 0).trans rfl; have z1 : w5.cell? ⟨w.heap.size, 1, none⟩ = some (.int .i64 0) := (blk_cell BK.out 1).trans rfl; have z2 : w5.cell? ⟨w.heap.size, 2, none⟩ = some (.int .i64 0) := (blk_cell BK.out 2).trans rfl; have f0 := blk_frozen BK.out 0; have f1 := blk_frozen BK.out 1; have f2 := blk_frozen BK.out 2))
  refine bodyPost_ret (results_ct rfl _ _ w.heap.size 26 #[.int .i64 0, .int .i64 0, .int .i64 0] (0, 0) _ rfl (by refine blk_put (cs := #[.int .i64 0, .int .i64 0, .int .i64 0]) ?_ 2 _ rfl; refine blk_put (cs := #[.int .i64 0, .int .i64 0, .int .i64 0]) ?_ 1 _ rfl; refine blk_put (cs := #[.int .i64 0, .int .i64 0, .int .i64 0]) ?_ 0 _ rfl; exact BK.out) Tryz.underlying26 rfl (by kernel_rfl)) rfl ?_
  exact ⟨rfl, by repeat (first | exact HB.out | refine below_set ?_ (Nat.le_refl _))⟩

set_option maxHeartbeats 8000000 in
set_option maxRecDepth 100000 in
theorem parse_inv (s : ByteArray) (w : World) (hl : Laid w) (hs : s.size < 4294967281) (p0 p1 p2 : ByteArray) (h : Lib.splitB ⟨#[45]⟩ 0 (Lib.countB s ⟨#[45]⟩) s = [p0, p1, p2]) (h0s : p0.size ≤ 4294967280) (h1s : p1.size ≤ 4294967280) (h2s : p2.size ≤ 4294967280) (v0 : Int) (h0 : Lib.atoiAll p0.data.toList = .ok v0) (v1 : Int) (h1 : Lib.atoiAll p1.data.toList = .ok v1) (v2 : Int) (h2 : Lib.atoiAll p2.data.toList = .ok v2) (nv : ¬ vld v0 v1 v2) :
    Calls Tryz.prog 27 #[.string s] w (Parsed w.heap.size w 0 0 0 (some 3)) := by
  have H := Lib.hid h
  clear h
  have n_ := Lib.hid h0
  clear h0
  have h0 := n_
  clear n_
  have n_ := Lib.hid h1
  clear h1
  have h1 := n_
  clear n_
  have n_ := Lib.hid h2
  clear h2
  have h2 := n_
  clear n_
  have hT := Aside0.mk (show civil_Text.f 2 v0 v1 v2 = some (⟨#[]⟩, some 1) by rw [CivP.text 2 _ _ _ (by omega), if_neg nv])
  clear nv
  have HB := Aside0.mk (Below.refl w.heap.size w)
  have HL := Aside0.mk hl
  clear hl
  go_enter Tryz.func27, Tryz.ntmps27
  go_wp2_with (first | (go_at_call 96; (refine (split_3 s hs p0 p1 p2 H.out _ (Laid.below HL.out (by repeat (first | (with_reducible first | exact HB.out | apply below_alloc | apply pw_below_drewN | apply below_drew1 | refine below_set ?_ GA.out | refine below_set ?_ (Nat.le_refl _)) | exact HB.out)))).mono ?_); rintro e w1 ⟨g, rfl, hg, hc, hb⟩; have BG := Aside0.mk hc; have BK := Aside0.mk (blk_below (blk_new w _) hb); have n0_ := Aside0.mk (below_step (below_alloc HB.out _) hb); clear HB; have HB := n0_; clear n0_; clear hb hc hg; have z0 : w1.cell? ⟨w.heap.size, 0, none⟩ = some (.int .i64 0) := (blk_cell BK.out 0).trans rfl; have z1 : w1.cell? ⟨w.heap.size, 1, none⟩ = some (.int .i64 0) := (blk_cell BK.out 1).trans rfl; have z2 : w1.cell? ⟨w.heap.size, 2, none⟩ = some (.int .i64 0) := (blk_cell BK.out 2).trans rfl; have f0 := blk_frozen BK.out 0; have f1 := blk_frozen BK.out 1; have f2 := blk_frozen BK.out 2) | ((with_reducible refine gate_dst (N := 5) rfl ?_); refine box_event ?hg (N := 5) ?hd (cs := #[.int .i64 0, .int .i64 0, .int .i64 0]) (t := 164) ?hr ?_; (case hd => rfl); (case hg => rfl); (case hr => first | (go_simp; done) | (go_simp; rfl)); intro ga hga w2 hbox hb2; have GA := Aside0.mk (show w.heap.size ≤ ga by rw [hga]; exact below_size HB.out); have n0_ := Aside0.mk (below_step HB.out hb2); have n1_ := Aside0.mk (blk_below BK.out hb2); have n2_ := Aside0.mk (blk_below BG.out hb2); have BA := Aside0.mk hbox; clear HB BK BG z0 z1 z2 f0 f1 f2; have HB := n0_; have BK := n1_; have BG := n2_; clear n0_ n1_ n2_; clear hb2 hbox hga; have NKA := Aside0.mk (blk_ne BK.out BA.out (by decide)); have NGA := Aside0.mk (blk_ne BG.out BA.out (by decide)); have y0 : w2.cell? ⟨g, 0, none⟩ = some (.string p0) := (blk_cell BG.out 0).trans rfl; have y1 : w2.cell? ⟨g, 1, none⟩ = some (.string p1) := (blk_cell BG.out 1).trans rfl; have y2 : w2.cell? ⟨g, 2, none⟩ = some (.string p2) := (blk_cell BG.out 2).trans rfl; have x0 : w2.cell? ⟨ga, 0, none⟩ = some (.int .i64 0) := (blk_cell BA.out 0).trans rfl; have x1 : w2.cell? ⟨ga, 1, none⟩ = some (.int .i64 0) := (blk_cell BA.out 1).trans rfl; have x2 : w2.cell? ⟨ga, 2, none⟩ = some (.int .i64 0) := (blk_cell BA.out 2).trans rfl; have q0 := blk_frozen BA.out 0; have q1 := blk_frozen BA.out 1; have q2 := blk_frozen BA.out 2))
  refine wp_loop_rounds 4 ?_
  rw [rounds_succ]
  go_wp2_with (first | (go_at_call 97; (with_reducible refine (atoi_ok p0 h0s v0 h0.out _).mono ?_); rintro e w3 ⟨rfl, hb⟩; have n0_ := Aside0.mk (below_step HB.out hb); have n1_ := Aside0.mk (blk_below BK.out hb); have n2_ := Aside0.mk (blk_below BG.out hb); have n3_ := Aside0.mk (blk_below BA.out hb); clear HB BK BG BA y0 y1 y2 x0 x1 x2 q0 q1 q2; have HB := n0_; have BK := n1_; have BG := n2_; have BA := n3_; clear n0_ n1_ n2_ n3_; clear hb; have y0 : w3.cell? ⟨g, 0, none⟩ = some (.string p0) := (blk_cell BG.out 0).trans rfl; have y1 : w3.cell? ⟨g, 1, none⟩ = some (.string p1) := (blk_cell BG.out 1).trans rfl; have y2 : w3.cell? ⟨g, 2, none⟩ = some (.string p2) := (blk_cell BG.out 2).trans rfl; have x0 : w3.cell? ⟨ga, 0, none⟩ = some (.int .i64 0) := (blk_cell BA.out 0).trans rfl; have x1 : w3.cell? ⟨ga, 1, none⟩ = some (.int .i64 0) := (blk_cell BA.out 1).trans rfl; have x2 : w3.cell? ⟨ga, 2, none⟩ = some (.int .i64 0) := (blk_cell BA.out 2).trans rfl; have q0 := blk_frozen BA.out 0; have q1 := blk_frozen BA.out 1; have q2 := blk_frozen BA.out 2; have z0 : w3.cell? ⟨w.heap.size, 0, none⟩ = some (.int .i64 0) := (blk_cell BK.out 0).trans rfl; have z1 : w3.cell? ⟨w.heap.size, 1, none⟩ = some (.int .i64 0) := (blk_cell BK.out 1).trans rfl; have z2 : w3.cell? ⟨w.heap.size, 2, none⟩ = some (.int .i64 0) := (blk_cell BK.out 2).trans rfl; have f0 := blk_frozen BK.out 0; have f1 := blk_frozen BK.out 1; have f2 := blk_frozen BK.out 2))
  rw [rounds_succ]
  go_wp2_with (first | (go_at_call 97; (with_reducible refine (atoi_ok p1 h1s v1 h1.out _).mono ?_); rintro e w4 ⟨rfl, hb⟩; have n0_ := Aside0.mk (below_step (below_set HB.out GA.out) hb); have n1_ := Aside0.mk (blk_below (blk_far BK.out NKA.out _) hb); have n2_ := Aside0.mk (blk_below (blk_far BG.out NGA.out _) hb); have n3_ := Aside0.mk (blk_below (blk_put (cs' := #[.int .i64 v0, .int .i64 0, .int .i64 0]) BA.out 0 (.int .i64 v0) rfl) hb); clear HB BK BG BA y0 y1 y2 x0 x1 x2 q0 q1 q2; have HB := n0_; have BK := n1_; have BG := n2_; have BA := n3_; clear n0_ n1_ n2_ n3_; clear hb; have y0 : w4.cell? ⟨g, 0, none⟩ = some (.string p0) := (blk_cell BG.out 0).trans rfl; have y1 : w4.cell? ⟨g, 1, none⟩ = some (.string p1) := (blk_cell BG.out 1).trans rfl; have y2 : w4.cell? ⟨g, 2, none⟩ = some (.string p2) := (blk_cell BG.out 2).trans rfl; have x0 : w4.cell? ⟨ga, 0, none⟩ = some (.int .i64 v0) := (blk_cell BA.out 0).trans rfl; have x1 : w4.cell? ⟨ga, 1, none⟩ = some (.int .i64 0) := (blk_cell BA.out 1).trans rfl; have x2 : w4.cell? ⟨ga, 2, none⟩ = some (.int .i64 0) := (blk_cell BA.out 2).trans rfl; have q0 := blk_frozen BA.out 0; have q1 := blk_frozen BA.out 1; have q2 := blk_frozen BA.out 2; have z0 : w4.cell? ⟨w.heap.size, 0, none⟩ = some (.int .i64 0) := (blk_cell BK.out 0).trans rfl; have z1 : w4.cell? ⟨w.heap.size, 1, none⟩ = some (.int .i64 0) := (blk_cell BK.out 1).trans rfl; have z2 : w4.cell? ⟨w.heap.size, 2, none⟩ = some (.int .i64 0) := (blk_cell BK.out 2).trans rfl; have f0 := blk_frozen BK.out 0; have f1 := blk_frozen BK.out 1; have f2 := blk_frozen BK.out 2))
  rw [rounds_succ]
  go_wp2_with (first | (go_at_call 97; (with_reducible refine (atoi_ok p2 h2s v2 h2.out _).mono ?_); rintro e w5 ⟨rfl, hb⟩; have n0_ := Aside0.mk (below_step (below_set HB.out GA.out) hb); have n1_ := Aside0.mk (blk_below (blk_far BK.out NKA.out _) hb); have n2_ := Aside0.mk (blk_below (blk_far BG.out NGA.out _) hb); have n3_ := Aside0.mk (blk_below (blk_put (cs' := #[.int .i64 v0, .int .i64 v1, .int .i64 0]) BA.out 1 (.int .i64 v1) rfl) hb); clear HB BK BG BA y0 y1 y2 x0 x1 x2 q0 q1 q2; have HB := n0_; have BK := n1_; have BG := n2_; have BA := n3_; clear n0_ n1_ n2_ n3_; clear hb; have y0 : w5.cell? ⟨g, 0, none⟩ = some (.string p0) := (blk_cell BG.out 0).trans rfl; have y1 : w5.cell? ⟨g, 1, none⟩ = some (.string p1) := (blk_cell BG.out 1).trans rfl; have y2 : w5.cell? ⟨g, 2, none⟩ = some (.string p2) := (blk_cell BG.out 2).trans rfl; have x0 : w5.cell? ⟨ga, 0, none⟩ = some (.int .i64 v0) := (blk_cell BA.out 0).trans rfl; have x1 : w5.cell? ⟨ga, 1, none⟩ = some (.int .i64 v1) := (blk_cell BA.out 1).trans rfl; have x2 : w5.cell? ⟨ga, 2, none⟩ = some (.int .i64 0) := (blk_cell BA.out 2).trans rfl; have q0 := blk_frozen BA.out 0; have q1 := blk_frozen BA.out 1; have q2 := blk_frozen BA.out 2; have z0 : w5.cell? ⟨w.heap.size, 0, none⟩ = some (.int .i64 0) := (blk_cell BK.out 0).trans rfl; have z1 : w5.cell? ⟨w.heap.size, 1, none⟩ = some (.int .i64 0) := (blk_cell BK.out 1).trans rfl; have z2 : w5.cell? ⟨w.heap.size, 2, none⟩ = some (.int .i64 0) := (blk_cell BK.out 2).trans rfl; have f0 := blk_frozen BK.out 0; have f1 := blk_frozen BK.out 1; have f2 := blk_frozen BK.out 2))
  rw [rounds_succ]
  go_wp2_with (first | (go_at_call 26; (with_reducible refine (civil_Text.calls 2 v0 v1 v2 ⟨#[]⟩ (some 1) _ (Laid.below HL.out (by repeat (first | (with_reducible first | exact HB.out | apply below_alloc | apply pw_below_drewN | apply below_drew1 | refine below_set ?_ GA.out | refine below_set ?_ (Nat.le_refl _)) | exact HB.out))) hT.out).mono ?_); rintro e w6 ⟨rfl, hb⟩; (try simp only [errW_none, errW_some]); have n0_ := Aside0.mk (below_step (by repeat (first | (with_reducible first | exact HB.out | apply below_alloc | refine below_set ?_ GA.out) | exact HB.out)) hb); have n1_ := Aside0.mk (blk_below (blk_alloc (blk_far (p := ⟨ga, 2, none⟩) BK.out NKA.out (.int .i64 v2)) _) hb); have n2_ := Aside0.mk (show w6.heap[w5.heap.size]? = some (.cells #[.int .i64 v0, .int .i64 v1, .int .i64 v2] 26 (0, 0)) from by have q_ := blk_below (blk_new _ _) hb; simpa [World.setCell] using q_); clear HB BK; have HB := n0_; have BK := n1_; have BD := n2_; clear n0_ n1_ n2_; clear hb; have z0 : w6.cell? ⟨w.heap.size, 0, none⟩ = some (.int .i64 0) := (blk_cell BK.out 0).trans rfl; have z1 : w6.cell? ⟨w.heap.size, 1, none⟩ = some (.int .i64 0) := (blk_cell BK.out 1).trans rfl; have z2 : w6.cell? ⟨w.heap.size, 2, none⟩ = some (.int .i64 0) := (blk_cell BK.out 2).trans rfl; have f0 := blk_frozen BK.out 0; have f1 := blk_frozen BK.out 1; have f2 := blk_frozen BK.out 2; have d0 : w6.cell? ⟨w5.heap.size, 0, none⟩ = some (.int .i64 v0) := (blk_cell BD.out 0).trans rfl; have d1 : w6.cell? ⟨w5.heap.size, 1, none⟩ = some (.int .i64 v1) := (blk_cell BD.out 1).trans rfl; have d2 : w6.cell? ⟨w5.heap.size, 2, none⟩ = some (.int .i64 v2) := (blk_cell BD.out 2).trans rfl; have r0 := blk_frozen BD.out 0; have r1 := blk_frozen BD.out 1; have r2 := blk_frozen BD.out 2))
  refine bodyPost_ret (results_ct rfl _ _ w.heap.size 26 #[.int .i64 0, .int .i64 0, .int .i64 0] (0, 0) _ rfl (by refine blk_put (cs := #[.int .i64 0, .int .i64 0, .int .i64 0]) ?_ 2 _ rfl; refine blk_put (cs := #[.int .i64 0, .int .i64 0, .int .i64 0]) ?_ 1 _ rfl; refine blk_put (cs := #[.int .i64 0, .int .i64 0, .int .i64 0]) ?_ 0 _ rfl; exact BK.out) Tryz.underlying26 rfl (by kernel_rfl)) rfl ?_
  exact ⟨rfl, by repeat (first | exact HB.out | refine below_set ?_ (Nat.le_refl _))⟩

set_option maxHeartbeats 8000000 in
set_option maxRecDepth 100000 in
theorem parse_ne (s : ByteArray) (w : World) (hl : Laid w) (hs : s.size < 4294967281) (p0 p1 p2 : ByteArray) (h : Lib.splitB ⟨#[45]⟩ 0 (Lib.countB s ⟨#[45]⟩) s = [p0, p1, p2]) (h0s : p0.size ≤ 4294967280) (h1s : p1.size ≤ 4294967280) (h2s : p2.size ≤ 4294967280) (v0 : Int) (h0 : Lib.atoiAll p0.data.toList = .ok v0) (v1 : Int) (h1 : Lib.atoiAll p1.data.toList = .ok v1) (v2 : Int) (h2 : Lib.atoiAll p2.data.toList = .ok v2) (v : vld v0 v1 v2) (hq : (dtext v0 v1 v2 == s.toList) = false) :
    Calls Tryz.prog 27 #[.string s] w (Parsed w.heap.size w 0 0 0 (some 3)) := by
  have H := Lib.hid h
  clear h
  have n_ := Lib.hid h0
  clear h0
  have h0 := n_
  clear n_
  have n_ := Lib.hid h1
  clear h1
  have h1 := n_
  clear n_
  have n_ := Lib.hid h2
  clear h2
  have h2 := n_
  clear n_
  have hT := Aside0.mk (show civil_Text.f 2 v0 v1 v2 = some (⟨(dtext v0 v1 v2).toArray⟩, none) by rw [CivP.text 2 _ _ _ (by omega), if_pos v])
  clear v
  have HB := Aside0.mk (Below.refl w.heap.size w)
  have HL := Aside0.mk hl
  clear hl
  go_enter Tryz.func27, Tryz.ntmps27
  go_wp2_with (first | (go_at_call 96; (refine (split_3 s hs p0 p1 p2 H.out _ (Laid.below HL.out (by repeat (first | (with_reducible first | exact HB.out | apply below_alloc | apply pw_below_drewN | apply below_drew1 | refine below_set ?_ GA.out | refine below_set ?_ (Nat.le_refl _)) | exact HB.out)))).mono ?_); rintro e w1 ⟨g, rfl, hg, hc, hb⟩; have BG := Aside0.mk hc; have BK := Aside0.mk (blk_below (blk_new w _) hb); have n0_ := Aside0.mk (below_step (below_alloc HB.out _) hb); clear HB; have HB := n0_; clear n0_; clear hb hc hg; have z0 : w1.cell? ⟨w.heap.size, 0, none⟩ = some (.int .i64 0) := (blk_cell BK.out 0).trans rfl; have z1 : w1.cell? ⟨w.heap.size, 1, none⟩ = some (.int .i64 0) := (blk_cell BK.out 1).trans rfl; have z2 : w1.cell? ⟨w.heap.size, 2, none⟩ = some (.int .i64 0) := (blk_cell BK.out 2).trans rfl; have f0 := blk_frozen BK.out 0; have f1 := blk_frozen BK.out 1; have f2 := blk_frozen BK.out 2) | ((with_reducible refine gate_dst (N := 5) rfl ?_); refine box_event ?hg (N := 5) ?hd (cs := #[.int .i64 0, .int .i64 0, .int .i64 0]) (t := 164) ?hr ?_; (case hd => rfl); (case hg => rfl); (case hr => first | (go_simp; done) | (go_simp; rfl)); intro ga hga w2 hbox hb2; have GA := Aside0.mk (show w.heap.size ≤ ga by rw [hga]; exact below_size HB.out); have n0_ := Aside0.mk (below_step HB.out hb2); have n1_ := Aside0.mk (blk_below BK.out hb2); have n2_ := Aside0.mk (blk_below BG.out hb2); have BA := Aside0.mk hbox; clear HB BK BG z0 z1 z2 f0 f1 f2; have HB := n0_; have BK := n1_; have BG := n2_; clear n0_ n1_ n2_; clear hb2 hbox hga; have NKA := Aside0.mk (blk_ne BK.out BA.out (by decide)); have NGA := Aside0.mk (blk_ne BG.out BA.out (by decide)); have y0 : w2.cell? ⟨g, 0, none⟩ = some (.string p0) := (blk_cell BG.out 0).trans rfl; have y1 : w2.cell? ⟨g, 1, none⟩ = some (.string p1) := (blk_cell BG.out 1).trans rfl; have y2 : w2.cell? ⟨g, 2, none⟩ = some (.string p2) := (blk_cell BG.out 2).trans rfl; have x0 : w2.cell? ⟨ga, 0, none⟩ = some (.int .i64 0) := (blk_cell BA.out 0).trans rfl; have x1 : w2.cell? ⟨ga, 1, none⟩ = some (.int .i64 0) := (blk_cell BA.out 1).trans rfl; have x2 : w2.cell? ⟨ga, 2, none⟩ = some (.int .i64 0) := (blk_cell BA.out 2).trans rfl; have q0 := blk_frozen BA.out 0; have q1 := blk_frozen BA.out 1; have q2 := blk_frozen BA.out 2))
  refine wp_loop_rounds 4 ?_
  rw [rounds_succ]
  go_wp2_with (first | (go_at_call 97; (with_reducible refine (atoi_ok p0 h0s v0 h0.out _).mono ?_); rintro e w3 ⟨rfl, hb⟩; have n0_ := Aside0.mk (below_step HB.out hb); have n1_ := Aside0.mk (blk_below BK.out hb); have n2_ := Aside0.mk (blk_below BG.out hb); have n3_ := Aside0.mk (blk_below BA.out hb); clear HB BK BG BA y0 y1 y2 x0 x1 x2 q0 q1 q2; have HB := n0_; have BK := n1_; have BG := n2_; have BA := n3_; clear n0_ n1_ n2_ n3_; clear hb; have y0 : w3.cell? ⟨g, 0, none⟩ = some (.string p0) := (blk_cell BG.out 0).trans rfl; have y1 : w3.cell? ⟨g, 1, none⟩ = some (.string p1) := (blk_cell BG.out 1).trans rfl; have y2 : w3.cell? ⟨g, 2, none⟩ = some (.string p2) := (blk_cell BG.out 2).trans rfl; have x0 : w3.cell? ⟨ga, 0, none⟩ = some (.int .i64 0) := (blk_cell BA.out 0).trans rfl; have x1 : w3.cell? ⟨ga, 1, none⟩ = some (.int .i64 0) := (blk_cell BA.out 1).trans rfl; have x2 : w3.cell? ⟨ga, 2, none⟩ = some (.int .i64 0) := (blk_cell BA.out 2).trans rfl; have q0 := blk_frozen BA.out 0; have q1 := blk_frozen BA.out 1; have q2 := blk_frozen BA.out 2; have z0 : w3.cell? ⟨w.heap.size, 0, none⟩ = some (.int .i64 0) := (blk_cell BK.out 0).trans rfl; have z1 : w3.cell? ⟨w.heap.size, 1, none⟩ = some (.int .i64 0) := (blk_cell BK.out 1).trans rfl; have z2 : w3.cell? ⟨w.heap.size, 2, none⟩ = some (.int .i64 0) := (blk_cell BK.out 2).trans rfl; have f0 := blk_frozen BK.out 0; have f1 := blk_frozen BK.out 1; have f2 := blk_frozen BK.out 2))
  rw [rounds_succ]
  go_wp2_with (first | (go_at_call 97; (with_reducible refine (atoi_ok p1 h1s v1 h1.out _).mono ?_); rintro e w4 ⟨rfl, hb⟩; have n0_ := Aside0.mk (below_step (below_set HB.out GA.out) hb); have n1_ := Aside0.mk (blk_below (blk_far BK.out NKA.out _) hb); have n2_ := Aside0.mk (blk_below (blk_far BG.out NGA.out _) hb); have n3_ := Aside0.mk (blk_below (blk_put (cs' := #[.int .i64 v0, .int .i64 0, .int .i64 0]) BA.out 0 (.int .i64 v0) rfl) hb); clear HB BK BG BA y0 y1 y2 x0 x1 x2 q0 q1 q2; have HB := n0_; have BK := n1_; have BG := n2_; have BA := n3_; clear n0_ n1_ n2_ n3_; clear hb; have y0 : w4.cell? ⟨g, 0, none⟩ = some (.string p0) := (blk_cell BG.out 0).trans rfl; have y1 : w4.cell? ⟨g, 1, none⟩ = some (.string p1) := (blk_cell BG.out 1).trans rfl; have y2 : w4.cell? ⟨g, 2, none⟩ = some (.string p2) := (blk_cell BG.out 2).trans rfl; have x0 : w4.cell? ⟨ga, 0, none⟩ = some (.int .i64 v0) := (blk_cell BA.out 0).trans rfl; have x1 : w4.cell? ⟨ga, 1, none⟩ = some (.int .i64 0) := (blk_cell BA.out 1).trans rfl; have x2 : w4.cell? ⟨ga, 2, none⟩ = some (.int .i64 0) := (blk_cell BA.out 2).trans rfl; have q0 := blk_frozen BA.out 0; have q1 := blk_frozen BA.out 1; have q2 := blk_frozen BA.out 2; have z0 : w4.cell? ⟨w.heap.size, 0, none⟩ = some (.int .i64 0) := (blk_cell BK.out 0).trans rfl; have z1 : w4.cell? ⟨w.heap.size, 1, none⟩ = some (.int .i64 0) := (blk_cell BK.out 1).trans rfl; have z2 : w4.cell? ⟨w.heap.size, 2, none⟩ = some (.int .i64 0) := (blk_cell BK.out 2).trans rfl; have f0 := blk_frozen BK.out 0; have f1 := blk_frozen BK.out 1; have f2 := blk_frozen BK.out 2))
  rw [rounds_succ]
  go_wp2_with (first | (go_at_call 97; (with_reducible refine (atoi_ok p2 h2s v2 h2.out _).mono ?_); rintro e w5 ⟨rfl, hb⟩; have n0_ := Aside0.mk (below_step (below_set HB.out GA.out) hb); have n1_ := Aside0.mk (blk_below (blk_far BK.out NKA.out _) hb); have n2_ := Aside0.mk (blk_below (blk_far BG.out NGA.out _) hb); have n3_ := Aside0.mk (blk_below (blk_put (cs' := #[.int .i64 v0, .int .i64 v1, .int .i64 0]) BA.out 1 (.int .i64 v1) rfl) hb); clear HB BK BG BA y0 y1 y2 x0 x1 x2 q0 q1 q2; have HB := n0_; have BK := n1_; have BG := n2_; have BA := n3_; clear n0_ n1_ n2_ n3_; clear hb; have y0 : w5.cell? ⟨g, 0, none⟩ = some (.string p0) := (blk_cell BG.out 0).trans rfl; have y1 : w5.cell? ⟨g, 1, none⟩ = some (.string p1) := (blk_cell BG.out 1).trans rfl; have y2 : w5.cell? ⟨g, 2, none⟩ = some (.string p2) := (blk_cell BG.out 2).trans rfl; have x0 : w5.cell? ⟨ga, 0, none⟩ = some (.int .i64 v0) := (blk_cell BA.out 0).trans rfl; have x1 : w5.cell? ⟨ga, 1, none⟩ = some (.int .i64 v1) := (blk_cell BA.out 1).trans rfl; have x2 : w5.cell? ⟨ga, 2, none⟩ = some (.int .i64 0) := (blk_cell BA.out 2).trans rfl; have q0 := blk_frozen BA.out 0; have q1 := blk_frozen BA.out 1; have q2 := blk_frozen BA.out 2; have z0 : w5.cell? ⟨w.heap.size, 0, none⟩ = some (.int .i64 0) := (blk_cell BK.out 0).trans rfl; have z1 : w5.cell? ⟨w.heap.size, 1, none⟩ = some (.int .i64 0) := (blk_cell BK.out 1).trans rfl; have z2 : w5.cell? ⟨w.heap.size, 2, none⟩ = some (.int .i64 0) := (blk_cell BK.out 2).trans rfl; have f0 := blk_frozen BK.out 0; have f1 := blk_frozen BK.out 1; have f2 := blk_frozen BK.out 2))
  rw [rounds_succ]
  go_wp2_with (first | (go_at_call 26; (with_reducible refine (civil_Text.calls 2 v0 v1 v2 ⟨(dtext v0 v1 v2).toArray⟩ none _ (Laid.below HL.out (by repeat (first | (with_reducible first | exact HB.out | apply below_alloc | apply pw_below_drewN | apply below_drew1 | refine below_set ?_ GA.out | refine below_set ?_ (Nat.le_refl _)) | exact HB.out))) hT.out).mono ?_); rintro e w6 ⟨rfl, hb⟩; (try simp only [errW_none, errW_some]); have n0_ := Aside0.mk (below_step (by repeat (first | (with_reducible first | exact HB.out | apply below_alloc | refine below_set ?_ GA.out) | exact HB.out)) hb); have n1_ := Aside0.mk (blk_below (blk_alloc (blk_far (p := ⟨ga, 2, none⟩) BK.out NKA.out (.int .i64 v2)) _) hb); have n2_ := Aside0.mk (show w6.heap[w5.heap.size]? = some (.cells #[.int .i64 v0, .int .i64 v1, .int .i64 v2] 26 (0, 0)) from by have q_ := blk_below (blk_new _ _) hb; simpa [World.setCell] using q_); clear HB BK; have HB := n0_; have BK := n1_; have BD := n2_; clear n0_ n1_ n2_; clear hb; have z0 : w6.cell? ⟨w.heap.size, 0, none⟩ = some (.int .i64 0) := (blk_cell BK.out 0).trans rfl; have z1 : w6.cell? ⟨w.heap.size, 1, none⟩ = some (.int .i64 0) := (blk_cell BK.out 1).trans rfl; have z2 : w6.cell? ⟨w.heap.size, 2, none⟩ = some (.int .i64 0) := (blk_cell BK.out 2).trans rfl; have f0 := blk_frozen BK.out 0; have f1 := blk_frozen BK.out 1; have f2 := blk_frozen BK.out 2; have d0 : w6.cell? ⟨w5.heap.size, 0, none⟩ = some (.int .i64 v0) := (blk_cell BD.out 0).trans rfl; have d1 : w6.cell? ⟨w5.heap.size, 1, none⟩ = some (.int .i64 v1) := (blk_cell BD.out 1).trans rfl; have d2 : w6.cell? ⟨w5.heap.size, 2, none⟩ = some (.int .i64 v2) := (blk_cell BD.out 2).trans rfl; have r0 := blk_frozen BD.out 0; have r1 := blk_frozen BD.out 1; have r2 := blk_frozen BD.out 2))
  refine bodyPost_ret (results_ct rfl _ _ w.heap.size 26 #[.int .i64 0, .int .i64 0, .int .i64 0] (0, 0) _ rfl (by refine blk_put (cs := #[.int .i64 0, .int .i64 0, .int .i64 0]) ?_ 2 _ rfl; refine blk_put (cs := #[.int .i64 0, .int .i64 0, .int .i64 0]) ?_ 1 _ rfl; refine blk_put (cs := #[.int .i64 0, .int .i64 0, .int .i64 0]) ?_ 0 _ rfl; exact BK.out) Tryz.underlying26 rfl (by kernel_rfl)) rfl ?_
  exact ⟨rfl, by repeat (first | exact HB.out | refine below_set ?_ (Nat.le_refl _))⟩

set_option maxHeartbeats 8000000 in
set_option maxRecDepth 100000 in
theorem parse_eq (s : ByteArray) (w : World) (hl : Laid w) (hs : s.size < 4294967281) (p0 p1 p2 : ByteArray) (h : Lib.splitB ⟨#[45]⟩ 0 (Lib.countB s ⟨#[45]⟩) s = [p0, p1, p2]) (h0s : p0.size ≤ 4294967280) (h1s : p1.size ≤ 4294967280) (h2s : p2.size ≤ 4294967280) (v0 : Int) (h0 : Lib.atoiAll p0.data.toList = .ok v0) (v1 : Int) (h1 : Lib.atoiAll p1.data.toList = .ok v1) (v2 : Int) (h2 : Lib.atoiAll p2.data.toList = .ok v2) (v : vld v0 v1 v2) (hq : (dtext v0 v1 v2 == s.toList) = true) :
    Calls Tryz.prog 27 #[.string s] w (Parsed w.heap.size w v0 v1 v2 none) := by
  have H := Lib.hid h
  clear h
  have n_ := Lib.hid h0
  clear h0
  have h0 := n_
  clear n_
  have n_ := Lib.hid h1
  clear h1
  have h1 := n_
  clear n_
  have n_ := Lib.hid h2
  clear h2
  have h2 := n_
  clear n_
  have hT := Aside0.mk (show civil_Text.f 2 v0 v1 v2 = some (⟨(dtext v0 v1 v2).toArray⟩, none) by rw [CivP.text 2 _ _ _ (by omega), if_pos v])
  clear v
  have HB := Aside0.mk (Below.refl w.heap.size w)
  have HL := Aside0.mk hl
  clear hl
  go_enter Tryz.func27, Tryz.ntmps27
  go_wp2_with (first | (go_at_call 96; (refine (split_3 s hs p0 p1 p2 H.out _ (Laid.below HL.out (by repeat (first | (with_reducible first | exact HB.out | apply below_alloc | apply pw_below_drewN | apply below_drew1 | refine below_set ?_ GA.out | refine below_set ?_ (Nat.le_refl _)) | exact HB.out)))).mono ?_); rintro e w1 ⟨g, rfl, hg, hc, hb⟩; have BG := Aside0.mk hc; have BK := Aside0.mk (blk_below (blk_new w _) hb); have n0_ := Aside0.mk (below_step (below_alloc HB.out _) hb); clear HB; have HB := n0_; clear n0_; clear hb hc hg; have z0 : w1.cell? ⟨w.heap.size, 0, none⟩ = some (.int .i64 0) := (blk_cell BK.out 0).trans rfl; have z1 : w1.cell? ⟨w.heap.size, 1, none⟩ = some (.int .i64 0) := (blk_cell BK.out 1).trans rfl; have z2 : w1.cell? ⟨w.heap.size, 2, none⟩ = some (.int .i64 0) := (blk_cell BK.out 2).trans rfl; have f0 := blk_frozen BK.out 0; have f1 := blk_frozen BK.out 1; have f2 := blk_frozen BK.out 2) | ((with_reducible refine gate_dst (N := 5) rfl ?_); refine box_event ?hg (N := 5) ?hd (cs := #[.int .i64 0, .int .i64 0, .int .i64 0]) (t := 164) ?hr ?_; (case hd => rfl); (case hg => rfl); (case hr => first | (go_simp; done) | (go_simp; rfl)); intro ga hga w2 hbox hb2; have GA := Aside0.mk (show w.heap.size ≤ ga by rw [hga]; exact below_size HB.out); have n0_ := Aside0.mk (below_step HB.out hb2); have n1_ := Aside0.mk (blk_below BK.out hb2); have n2_ := Aside0.mk (blk_below BG.out hb2); have BA := Aside0.mk hbox; clear HB BK BG z0 z1 z2 f0 f1 f2; have HB := n0_; have BK := n1_; have BG := n2_; clear n0_ n1_ n2_; clear hb2 hbox hga; have NKA := Aside0.mk (blk_ne BK.out BA.out (by decide)); have NGA := Aside0.mk (blk_ne BG.out BA.out (by decide)); have y0 : w2.cell? ⟨g, 0, none⟩ = some (.string p0) := (blk_cell BG.out 0).trans rfl; have y1 : w2.cell? ⟨g, 1, none⟩ = some (.string p1) := (blk_cell BG.out 1).trans rfl; have y2 : w2.cell? ⟨g, 2, none⟩ = some (.string p2) := (blk_cell BG.out 2).trans rfl; have x0 : w2.cell? ⟨ga, 0, none⟩ = some (.int .i64 0) := (blk_cell BA.out 0).trans rfl; have x1 : w2.cell? ⟨ga, 1, none⟩ = some (.int .i64 0) := (blk_cell BA.out 1).trans rfl; have x2 : w2.cell? ⟨ga, 2, none⟩ = some (.int .i64 0) := (blk_cell BA.out 2).trans rfl; have q0 := blk_frozen BA.out 0; have q1 := blk_frozen BA.out 1; have q2 := blk_frozen BA.out 2))
  refine wp_loop_rounds 4 ?_
  rw [rounds_succ]
  go_wp2_with (first | (go_at_call 97; (with_reducible refine (atoi_ok p0 h0s v0 h0.out _).mono ?_); rintro e w3 ⟨rfl, hb⟩; have n0_ := Aside0.mk (below_step HB.out hb); have n1_ := Aside0.mk (blk_below BK.out hb); have n2_ := Aside0.mk (blk_below BG.out hb); have n3_ := Aside0.mk (blk_below BA.out hb); clear HB BK BG BA y0 y1 y2 x0 x1 x2 q0 q1 q2; have HB := n0_; have BK := n1_; have BG := n2_; have BA := n3_; clear n0_ n1_ n2_ n3_; clear hb; have y0 : w3.cell? ⟨g, 0, none⟩ = some (.string p0) := (blk_cell BG.out 0).trans rfl; have y1 : w3.cell? ⟨g, 1, none⟩ = some (.string p1) := (blk_cell BG.out 1).trans rfl; have y2 : w3.cell? ⟨g, 2, none⟩ = some (.string p2) := (blk_cell BG.out 2).trans rfl; have x0 : w3.cell? ⟨ga, 0, none⟩ = some (.int .i64 0) := (blk_cell BA.out 0).trans rfl; have x1 : w3.cell? ⟨ga, 1, none⟩ = some (.int .i64 0) := (blk_cell BA.out 1).trans rfl; have x2 : w3.cell? ⟨ga, 2, none⟩ = some (.int .i64 0) := (blk_cell BA.out 2).trans rfl; have q0 := blk_frozen BA.out 0; have q1 := blk_frozen BA.out 1; have q2 := blk_frozen BA.out 2; have z0 : w3.cell? ⟨w.heap.size, 0, none⟩ = some (.int .i64 0) := (blk_cell BK.out 0).trans rfl; have z1 : w3.cell? ⟨w.heap.size, 1, none⟩ = some (.int .i64 0) := (blk_cell BK.out 1).trans rfl; have z2 : w3.cell? ⟨w.heap.size, 2, none⟩ = some (.int .i64 0) := (blk_cell BK.out 2).trans rfl; have f0 := blk_frozen BK.out 0; have f1 := blk_frozen BK.out 1; have f2 := blk_frozen BK.out 2))
  rw [rounds_succ]
  go_wp2_with (first | (go_at_call 97; (with_reducible refine (atoi_ok p1 h1s v1 h1.out _).mono ?_); rintro e w4 ⟨rfl, hb⟩; have n0_ := Aside0.mk (below_step (below_set HB.out GA.out) hb); have n1_ := Aside0.mk (blk_below (blk_far BK.out NKA.out _) hb); have n2_ := Aside0.mk (blk_below (blk_far BG.out NGA.out _) hb); have n3_ := Aside0.mk (blk_below (blk_put (cs' := #[.int .i64 v0, .int .i64 0, .int .i64 0]) BA.out 0 (.int .i64 v0) rfl) hb); clear HB BK BG BA y0 y1 y2 x0 x1 x2 q0 q1 q2; have HB := n0_; have BK := n1_; have BG := n2_; have BA := n3_; clear n0_ n1_ n2_ n3_; clear hb; have y0 : w4.cell? ⟨g, 0, none⟩ = some (.string p0) := (blk_cell BG.out 0).trans rfl; have y1 : w4.cell? ⟨g, 1, none⟩ = some (.string p1) := (blk_cell BG.out 1).trans rfl; have y2 : w4.cell? ⟨g, 2, none⟩ = some (.string p2) := (blk_cell BG.out 2).trans rfl; have x0 : w4.cell? ⟨ga, 0, none⟩ = some (.int .i64 v0) := (blk_cell BA.out 0).trans rfl; have x1 : w4.cell? ⟨ga, 1, none⟩ = some (.int .i64 0) := (blk_cell BA.out 1).trans rfl; have x2 : w4.cell? ⟨ga, 2, none⟩ = some (.int .i64 0) := (blk_cell BA.out 2).trans rfl; have q0 := blk_frozen BA.out 0; have q1 := blk_frozen BA.out 1; have q2 := blk_frozen BA.out 2; have z0 : w4.cell? ⟨w.heap.size, 0, none⟩ = some (.int .i64 0) := (blk_cell BK.out 0).trans rfl; have z1 : w4.cell? ⟨w.heap.size, 1, none⟩ = some (.int .i64 0) := (blk_cell BK.out 1).trans rfl; have z2 : w4.cell? ⟨w.heap.size, 2, none⟩ = some (.int .i64 0) := (blk_cell BK.out 2).trans rfl; have f0 := blk_frozen BK.out 0; have f1 := blk_frozen BK.out 1; have f2 := blk_frozen BK.out 2))
  rw [rounds_succ]
  go_wp2_with (first | (go_at_call 97; (with_reducible refine (atoi_ok p2 h2s v2 h2.out _).mono ?_); rintro e w5 ⟨rfl, hb⟩; have n0_ := Aside0.mk (below_step (below_set HB.out GA.out) hb); have n1_ := Aside0.mk (blk_below (blk_far BK.out NKA.out _) hb); have n2_ := Aside0.mk (blk_below (blk_far BG.out NGA.out _) hb); have n3_ := Aside0.mk (blk_below (blk_put (cs' := #[.int .i64 v0, .int .i64 v1, .int .i64 0]) BA.out 1 (.int .i64 v1) rfl) hb); clear HB BK BG BA y0 y1 y2 x0 x1 x2 q0 q1 q2; have HB := n0_; have BK := n1_; have BG := n2_; have BA := n3_; clear n0_ n1_ n2_ n3_; clear hb; have y0 : w5.cell? ⟨g, 0, none⟩ = some (.string p0) := (blk_cell BG.out 0).trans rfl; have y1 : w5.cell? ⟨g, 1, none⟩ = some (.string p1) := (blk_cell BG.out 1).trans rfl; have y2 : w5.cell? ⟨g, 2, none⟩ = some (.string p2) := (blk_cell BG.out 2).trans rfl; have x0 : w5.cell? ⟨ga, 0, none⟩ = some (.int .i64 v0) := (blk_cell BA.out 0).trans rfl; have x1 : w5.cell? ⟨ga, 1, none⟩ = some (.int .i64 v1) := (blk_cell BA.out 1).trans rfl; have x2 : w5.cell? ⟨ga, 2, none⟩ = some (.int .i64 0) := (blk_cell BA.out 2).trans rfl; have q0 := blk_frozen BA.out 0; have q1 := blk_frozen BA.out 1; have q2 := blk_frozen BA.out 2; have z0 : w5.cell? ⟨w.heap.size, 0, none⟩ = some (.int .i64 0) := (blk_cell BK.out 0).trans rfl; have z1 : w5.cell? ⟨w.heap.size, 1, none⟩ = some (.int .i64 0) := (blk_cell BK.out 1).trans rfl; have z2 : w5.cell? ⟨w.heap.size, 2, none⟩ = some (.int .i64 0) := (blk_cell BK.out 2).trans rfl; have f0 := blk_frozen BK.out 0; have f1 := blk_frozen BK.out 1; have f2 := blk_frozen BK.out 2))
  rw [rounds_succ]
  go_wp2_with (first | (go_at_call 26; (with_reducible refine (civil_Text.calls 2 v0 v1 v2 ⟨(dtext v0 v1 v2).toArray⟩ none _ (Laid.below HL.out (by repeat (first | (with_reducible first | exact HB.out | apply below_alloc | apply pw_below_drewN | apply below_drew1 | refine below_set ?_ GA.out | refine below_set ?_ (Nat.le_refl _)) | exact HB.out))) hT.out).mono ?_); rintro e w6 ⟨rfl, hb⟩; (try simp only [errW_none, errW_some]); have n0_ := Aside0.mk (below_step (by repeat (first | (with_reducible first | exact HB.out | apply below_alloc | refine below_set ?_ GA.out) | exact HB.out)) hb); have n1_ := Aside0.mk (blk_below (blk_alloc (blk_far (p := ⟨ga, 2, none⟩) BK.out NKA.out (.int .i64 v2)) _) hb); have n2_ := Aside0.mk (show w6.heap[w5.heap.size]? = some (.cells #[.int .i64 v0, .int .i64 v1, .int .i64 v2] 26 (0, 0)) from by have q_ := blk_below (blk_new _ _) hb; simpa [World.setCell] using q_); clear HB BK; have HB := n0_; have BK := n1_; have BD := n2_; clear n0_ n1_ n2_; clear hb; have z0 : w6.cell? ⟨w.heap.size, 0, none⟩ = some (.int .i64 0) := (blk_cell BK.out 0).trans rfl; have z1 : w6.cell? ⟨w.heap.size, 1, none⟩ = some (.int .i64 0) := (blk_cell BK.out 1).trans rfl; have z2 : w6.cell? ⟨w.heap.size, 2, none⟩ = some (.int .i64 0) := (blk_cell BK.out 2).trans rfl; have f0 := blk_frozen BK.out 0; have f1 := blk_frozen BK.out 1; have f2 := blk_frozen BK.out 2; have d0 : w6.cell? ⟨w5.heap.size, 0, none⟩ = some (.int .i64 v0) := (blk_cell BD.out 0).trans rfl; have d1 : w6.cell? ⟨w5.heap.size, 1, none⟩ = some (.int .i64 v1) := (blk_cell BD.out 1).trans rfl; have d2 : w6.cell? ⟨w5.heap.size, 2, none⟩ = some (.int .i64 v2) := (blk_cell BD.out 2).trans rfl; have r0 := blk_frozen BD.out 0; have r1 := blk_frozen BD.out 1; have r2 := blk_frozen BD.out 2))
  refine bodyPost_ret (results_ct rfl _ _ w.heap.size 26 #[.int .i64 v0, .int .i64 v1, .int .i64 v2] (0, 0) _ rfl (by refine blk_put (cs := #[.int .i64 v0, .int .i64 v1, .int .i64 0]) ?_ 2 _ rfl; refine blk_put (cs := #[.int .i64 v0, .int .i64 0, .int .i64 0]) ?_ 1 _ rfl; refine blk_put (cs := #[.int .i64 0, .int .i64 0, .int .i64 0]) ?_ 0 _ rfl; exact BK.out) Tryz.underlying26 rfl (by kernel_rfl)) rfl ?_
  exact ⟨rfl, by repeat (first | exact HB.out | refine below_set ?_ (Nat.le_refl _))⟩

theorem extract_le (s : ByteArray) (a b : Nat) : (s.extract a b).size ≤ s.size := by rw [ByteArray.size_extract]; omega
theorem splitB_size (sep : ByteArray) : ∀ (k : Nat) (s p : ByteArray), p ∈ Lib.splitB sep 0 k s → p.size ≤ s.size
  | 0, s, p, h => by simp [Lib.splitB] at h; rw [h]; exact Nat.le_refl _
  | k + 1, s, p, h => by
    unfold Lib.splitB at h
    split at h
    · simp at h; rw [h]; exact Nat.le_refl _
    · rcases List.mem_cons.1 h with rfl | h
      · exact extract_le _ _ _
      · exact Nat.le_trans (splitB_size sep k _ p h) (extract_le _ _ _)
theorem civil_Parse.calls (a0 : ByteArray) (r1 r2 r3 : Int) (r4 : Option Int) (w : World) (hl_ : Laid w) (h : civil_Parse.f a0 = some (r1, r2, r3, r4)) :
    Calls Tryz.prog 27 #[.string a0] w fun e w' => e = .returned (.tuple #[.agg #[.int .i64 r1, .int .i64 r2, .int .i64 r3], errW r4]) ∧ Below w.heap.size w w' := by
  unfold civil_Parse.f at h
  split at h
  rotate_left
  · cases h
  rename_i hs
  obtain ⟨l, hsp⟩ : ∃ l, Lib.splitB ⟨#[45]⟩ 0 (Lib.countB a0 ⟨#[45]⟩) a0 = l := ⟨_, rfl⟩
  have hC := splitB_eq 45 a0
  rw [hsp] at hC
  have none_of : dateOf a0.data.toList = none → some (0, 0, 0, some 3) = some (r1, r2, r3, r4) := fun e => by rw [e] at h; exact h
  by_cases hn : l.length = 3
  rotate_left
  · have hd : dateOf a0.data.toList = none := by
      cases hd : dateOf a0.data.toList with
      | none => rfl
      | some t =>
        obtain ⟨y, m, d⟩ := t
        obtain ⟨_, _, p0, p1, p2, e, _⟩ := dateOf_some hd
        rw [e] at hC
        have := congrArg List.length hC
        simp at this; omega
    have e := none_of hd
    simp only [Option.some.injEq, Prod.mk.injEq] at e
    obtain ⟨rfl, rfl, rfl, rfl⟩ := e
    exact parse_len a0 w hl_ hs l hsp (by simp; omega)
  · match l, hn with
    | [p0, p1, p2], _ =>
      have hz : ∀ p ∈ [p0, p1, p2], p.size ≤ 4294967280 := fun p hp => by
        have := splitB_size ⟨#[45]⟩ _ a0 p (by rw [hsp]; exact hp)
        omega
      have z0 := hz p0 (by simp)
      have z1 := hz p1 (by simp)
      have z2 := hz p2 (by simp)
      simp only [List.map_cons, List.map_nil] at hC
      have bad : (∀ y m d, ¬ (Lib.atoiAll p0.data.toList = .ok y ∧ Lib.atoiAll p1.data.toList = .ok m ∧ Lib.atoiAll p2.data.toList = .ok d)) → r1 = 0 ∧ r2 = 0 ∧ r3 = 0 ∧ r4 = some 3 := by
        intro hno
        have hd : dateOf a0.data.toList = none := by
          cases hd : dateOf a0.data.toList with
          | none => rfl
          | some t =>
            obtain ⟨y, m, d⟩ := t
            obtain ⟨_, _, q0, q1, q2, e, a1, a2, a3⟩ := dateOf_some hd
            rw [e] at hC
            simp only [List.cons.injEq, and_true] at hC
            obtain ⟨rfl, rfl, rfl⟩ := hC
            exact absurd ⟨a1, a2, a3⟩ (hno y m d)
        have e := none_of hd
        simp only [Option.some.injEq, Prod.mk.injEq] at e
        obtain ⟨rfl, rfl, rfl, rfl⟩ := e
        exact ⟨rfl, rfl, rfl, rfl⟩
      by_cases c0 : ∃ v, Lib.atoiAll p0.data.toList = .ok v
      rotate_left
      · obtain ⟨rfl, rfl, rfl, rfl⟩ := bad (fun y m d e => c0 ⟨y, e.1⟩)
        exact parse_bad0 a0 w hl_ hs p0 p1 p2 hsp z0 z1 z2 (fun v e => c0 ⟨v, e⟩)
      obtain ⟨v0, h0⟩ := c0
      by_cases c1 : ∃ v, Lib.atoiAll p1.data.toList = .ok v
      rotate_left
      · obtain ⟨rfl, rfl, rfl, rfl⟩ := bad (fun y m d e => c1 ⟨m, e.2.1⟩)
        exact parse_bad1 a0 w hl_ hs p0 p1 p2 hsp z0 z1 z2 v0 h0 (fun v e => c1 ⟨v, e⟩)
      obtain ⟨v1, h1⟩ := c1
      by_cases c2 : ∃ v, Lib.atoiAll p2.data.toList = .ok v
      rotate_left
      · obtain ⟨rfl, rfl, rfl, rfl⟩ := bad (fun y m d e => c2 ⟨d, e.2.2⟩)
        exact parse_bad2 a0 w hl_ hs p0 p1 p2 hsp z0 z1 z2 v0 h0 v1 h1 (fun v e => c2 ⟨v, e⟩)
      obtain ⟨v2, h2⟩ := c2
      have hd := dateOf_iff hC.symm h0 h1 h2
      have hS : a0.toList = a0.data.toList := ByteArray.toList_eq a0
      by_cases v : vld v0 v1 v2
      rotate_left
      · rw [if_neg (fun c => v c.1)] at hd
        have e := none_of hd
        simp only [Option.some.injEq, Prod.mk.injEq] at e
        obtain ⟨rfl, rfl, rfl, rfl⟩ := e
        exact parse_inv a0 w hl_ hs p0 p1 p2 hsp z0 z1 z2 v0 h0 v1 h1 v2 h2 v
      by_cases q : dtext v0 v1 v2 = a0.data.toList
      · rw [if_pos ⟨v, q⟩] at hd
        rw [hd] at h
        simp only [Option.some.injEq, Prod.mk.injEq] at h
        obtain ⟨rfl, rfl, rfl, rfl⟩ := h
        exact parse_eq a0 w hl_ hs p0 p1 p2 hsp z0 z1 z2 v0 h0 v1 h1 v2 h2 v (by rw [hS, q]; simp)
      · rw [if_neg (fun c => q c.2)] at hd
        have e := none_of hd
        simp only [Option.some.injEq, Prod.mk.injEq] at e
        obtain ⟨rfl, rfl, rfl, rfl⟩ := e
        exact parse_ne a0 w hl_ hs p0 p1 p2 hsp z0 z1 z2 v0 h0 v1 h1 v2 h2 v (by rw [hS]; simpa using q)
end Go.Proofs.YtfjifhkgifefeaaGreatDoor.Giv
end

section
namespace Go.Proofs.YtfjifhkgifefeaaGreatDoor.PA
open Go.Proofs.YtfjifhkgifefeaaGreatDoor.Giv Go.RowKit Go.Proofs.YtfjifhkgifefeaaGreatDoorW.PrintWords Go.Proofs.YtfjifhkgifefeaaGreatDoorW.PrintLast Go.Proofs.YtfjifhkgifefeaaGreatDoorW.PrintMore
attribute [local go_sem] max2_int min2_int max_two min_two max_three min_three max_four min_four   -- for this text's walks alone
set_option linter.unusedVariables false
set_option linter.unusedSimpArgs false

/-! ### fuseelaw07_sure: function 15 -/
def fuseelaw07_sure.f (k : Nat)  : Option (Bool) := (civil_Days.f k 2000 2 29).bind fun bt149 => ((civil_Of.f k 0).bind fun bt151 => ((civil_Text.f k bt151.1 bt151.2.1 bt151.2.2.1).bind fun bt156 => ((civil_Parse.f (⟨#[50, 48, 48, 49, 45, 48, 50, 45, 50, 57]⟩ : ByteArray)).bind fun bt158 => (if bt149.2.isNone = true then (if bt151.2.2.2.isNone = true then (if bt156.2.isNone = true then (if bt149.1 = 11016 then ((civil_Weekday.f bt149.1).bind fun t166 => (if t166 = 2 then (if bt156.1.toList = ([49, 57, 55, 48, 45, 48, 49, 45, 48, 49] : List UInt8) then ((fuseelaw07_num.f bt158.2.2.2).bind fun t167 => (if t167 = 3 then ((civil_Leap.f 2000).bind fun t168 => (if t168 = true then ((civil_Month.f k 1900 2).bind fun t169 => (some (t169 == 28))) else (some false))) else (some false))) else (some false)) else (some false))) else (some false)) else (some false)) else (some false)) else (some false)))))
set_option maxHeartbeats 8000000 in
set_option maxRecDepth 100000 in
theorem fuseelaw07_sure.calls (k : Nat)  (r : Bool) (w : World) (hl_ : Laid w) (h : fuseelaw07_sure.f k  = some r) :
    Calls Tryz.prog 15 #[] w fun e w' => e = .returned (.bool r) ∧ Below w.heap.size w w' := by
  have hu26 := Tryz.underlying26
  have hu28 := Tryz.underlying28
  have hu157 := Tryz.underlying157
  have HL := Aside0.mk hl_
  clear hl_
  have HB := Aside0.mk (Below.refl w.heap.size w)
  have H := h
  clear h
  unfold fuseelaw07_sure.f at H
  replace H := Option.bind_eq_some_iff.mp H
  obtain ⟨⟨t149, t150⟩, A10, H⟩ := H
  try dsimp only at H
  have A1 := Aside0.mk A10
  clear A10
  replace H := Option.bind_eq_some_iff.mp H
  obtain ⟨⟨t151, t152, t153, t154⟩, A20, H⟩ := H
  try dsimp only at H
  have A2 := Aside0.mk A20
  clear A20
  replace H := Option.bind_eq_some_iff.mp H
  obtain ⟨⟨t156, t157⟩, A30, H⟩ := H
  try dsimp only at H
  have A3 := Aside0.mk A30
  clear A30
  replace H := Option.bind_eq_some_iff.mp H
  obtain ⟨⟨t158, t159, t160, t161⟩, A40, H⟩ := H
  try dsimp only at H
  have A4 := Aside0.mk A40
  clear A40
  rcases t150 with _ | q163
  · rw [if_pos (show (none : Option Int).isNone = true by rfl)] at H
    try dsimp only [Option.getD_some] at H
    try simp only [errW_none, errW_some]
    rcases t154 with _ | q164
    · rw [if_pos (show (none : Option Int).isNone = true by rfl)] at H
      try dsimp only [Option.getD_some] at H
      try simp only [errW_none, errW_some]
      rcases t157 with _ | q165
      · rw [if_pos (show (none : Option Int).isNone = true by rfl)] at H
        try dsimp only [Option.getD_some] at H
        try simp only [errW_none, errW_some]
        by_cases c5 : t149 = 11016
        · rw [if_pos c5] at H
          have c5b0 : (t149 == 11016) = true := beq_iff_eq.mpr c5
          have c5b1 : (t149 != 11016) = false := bne_eq_false_iff_eq.mpr c5
          clear c5
          replace H := Option.bind_eq_some_iff.mp H
          obtain ⟨t166, A60, H⟩ := H
          try dsimp only at H
          have A6 := Aside0.mk A60
          clear A60
          by_cases c7 : t166 = 2
          · rw [if_pos c7] at H
            have c7b0 : (t166 == 2) = true := beq_iff_eq.mpr c7
            have c7b1 : (t166 != 2) = false := bne_eq_false_iff_eq.mpr c7
            clear c7
            by_cases c8 : t156.toList = ([49, 57, 55, 48, 45, 48, 49, 45, 48, 49] : List UInt8)
            · rw [if_pos c8] at H
              have c8b0 : (t156.toList == ([49, 57, 55, 48, 45, 48, 49, 45, 48, 49] : List UInt8)) = true := beq_iff_eq.mpr c8
              have c8b1 : (t156.toList != ([49, 57, 55, 48, 45, 48, 49, 45, 48, 49] : List UInt8)) = false := bne_eq_false_iff_eq.mpr c8
              clear c8
              replace H := Option.bind_eq_some_iff.mp H
              obtain ⟨t167, A90, H⟩ := H
              try dsimp only at H
              have A9 := Aside0.mk A90
              clear A90
              by_cases c10 : t167 = 3
              · rw [if_pos c10] at H
                have c10b0 : (t167 == 3) = true := beq_iff_eq.mpr c10
                have c10b1 : (t167 != 3) = false := bne_eq_false_iff_eq.mpr c10
                clear c10
                replace H := Option.bind_eq_some_iff.mp H
                obtain ⟨t168, A110, H⟩ := H
                try dsimp only at H
                have A11 := Aside0.mk A110
                clear A110
                by_cases c12 : t168 = true
                · subst c12
                  have H1 : ((civil_Month.f k 1900 2).bind fun t169 => (some (t169 == 28))) = some r := by rw [if_pos rfl] at H; exact H
                  clear H
                  have H := H1
                  clear H1
                  replace H := Option.bind_eq_some_iff.mp H
                  obtain ⟨t169, A130, H⟩ := H
                  try dsimp only at H
                  have A13 := Aside0.mk A130
                  clear A130
                  obtain rfl := Option.some.inj H
                  go_enter Tryz.func15, Tryz.ntmps15
                  go_wp2_with (first | ((with_reducible refine gate_callee (f := 16) rfl ?_); refine goesL_ (some 11) rfl rfl Tryz.func16 (by kernel_rfl) rfl #[.agg #[.int .i64 2000, .int .i64 2, .int .i64 29]] rfl (by (try simp only [List.map_toArray, List.map_cons, List.map_nil]); first | done | rfl | (simp only [List.length_drop, List.length_take]; rfl)) ?_; (with_reducible refine (civil_Days.calls k 2000 2 29 t149 none _ A1.out).mono ?_); rintro e w14 ⟨rfl, hb⟩; refine ⟨_, rfl, ?_⟩; have n0_ := Aside0.mk (below_step (by repeat (first | (with_reducible first | exact HB.out | apply below_alloc | apply pw_below_drewN | apply below_drew1) | exact HB.out)) hb); clear HB; have HB := n0_; clear n0_; (try clear hb); (try clear hb2); (try clear hk); (try clear hi); (try simp only [errW_none, errW_some])) | ((with_reducible refine gate_callee (f := 17) rfl ?_); refine goesL_ (some 15) rfl rfl Tryz.func17 (by kernel_rfl) rfl #[.int .i64 0] rfl (by (try simp only [List.map_toArray, List.map_cons, List.map_nil]); first | done | rfl | (simp only [List.length_drop, List.length_take]; rfl)) ?_; (with_reducible refine (civil_Of.calls k 0 t151 t152 t153 none _ A2.out).mono ?_); rintro e w15 ⟨rfl, hb⟩; refine ⟨_, rfl, ?_⟩; have n0_ := Aside0.mk (below_step (by repeat (first | (with_reducible first | exact HB.out | apply below_alloc | apply pw_below_drewN | apply below_drew1) | exact HB.out)) hb); clear HB; have HB := n0_; clear n0_; (try clear hb); (try clear hb2); (try clear hk); (try clear hi); (try simp only [errW_none, errW_some])) | ((with_reducible refine gate_dst (N := 3) rfl ?_); refine box_event ?hg (N := 3) ?hd (cs := #[.int .i64 0, .int .i64 0, .int .i64 0]) (t := 26) ?hr ?_; (case hd => rfl); (case hg => rfl); (case hr => first | (go_simp; done) | (go_simp; rfl)); intro gb155 hg w16 hbox hb; have n0_ := Aside0.mk (below_step (by repeat (first | (with_reducible first | exact HB.out | apply below_alloc | apply pw_below_drewN | apply below_drew1) | exact HB.out)) hb); have n1_ := Aside0.mk (hbox); have n2_ := Aside0.mk ((by rw [hg]; exact (below_size (by repeat (first | (with_reducible first | exact HB.out | apply below_alloc | apply pw_below_drewN | apply below_drew1) | exact HB.out))) : w.heap.size ≤ gb155)); have n3_ := Aside0.mk ((by rw [hg]; exact (below_size (by repeat (first | (with_reducible first | exact HB.out | apply below_alloc | apply pw_below_drewN | apply below_drew1) | exact HB.out))) : w.heap.size ≤ gb155)); clear HB; have HB := n0_; have BK155 := n1_; have GW155 := n2_; have GE155 := n3_; clear n0_ n1_ n2_ n3_; clear hb hbox hg; have hcz17_0 : w16.cell? ⟨gb155, 0, none⟩ = some (.int .i64 0) := (blk_cell BK155.out 0).trans rfl; have hcz17_1 : w16.cell? ⟨gb155, 1, none⟩ = some (.int .i64 0) := (blk_cell BK155.out 1).trans rfl; have hcz17_2 : w16.cell? ⟨gb155, 2, none⟩ = some (.int .i64 0) := (blk_cell BK155.out 2).trans rfl; have hfz17_0 := blk_frozen BK155.out 0; have hfz17_1 := blk_frozen BK155.out 1; have hfz17_2 := blk_frozen BK155.out 2) | ((with_reducible refine gate_callee (f := 26) rfl ?_); refine goesL_ (some 20) rfl rfl Tryz.func26 (by kernel_rfl) rfl #[.agg #[.int .i64 t151, .int .i64 t152, .int .i64 t153]] rfl (by (try simp only [List.map_toArray, List.map_cons, List.map_nil]); first | done | rfl | (simp only [List.length_drop, List.length_take]; rfl)) ?_; (with_reducible refine (civil_Text.calls k t151 t152 t153 t156 none _ (by first | exact Laid.below HL.out (by repeat (first | (with_reducible first | exact HB.out | apply below_alloc | apply pw_below_drewN | apply below_drew1 | refine below_set ?_ (Aside0.out (by assumption))) | exact HB.out))) A3.out).mono ?_); rintro e w18 ⟨rfl, hb⟩; refine ⟨_, rfl, ?_⟩; have n0_ := Aside0.mk (blk_below (g := gb155) (o := .cells #[.int .i64 t151, .int .i64 t152, .int .i64 t153] 26 (0, 0)) (by (with_reducible repeat (first | refine blk_drewN ?_ _ | refine blk_drew ?_ | refine blk_alloc ?_ _)); refine blk_put (cs := #[.int .i64 t151, .int .i64 t152, .int .i64 0]) ?_ 2 _ rfl; (with_reducible repeat (first | refine blk_drewN ?_ _ | refine blk_drew ?_ | refine blk_alloc ?_ _)); refine blk_put (cs := #[.int .i64 t151, .int .i64 0, .int .i64 0]) ?_ 1 _ rfl; (with_reducible repeat (first | refine blk_drewN ?_ _ | refine blk_drew ?_ | refine blk_alloc ?_ _)); refine blk_put (cs := #[.int .i64 0, .int .i64 0, .int .i64 0]) ?_ 0 _ rfl; (with_reducible repeat (first | refine blk_drewN ?_ _ | refine blk_drew ?_ | refine blk_alloc ?_ _)); exact BK155.out) hb); have n1_ := Aside0.mk (below_step (by repeat (first | (with_reducible first | exact HB.out | apply below_alloc | apply pw_below_drewN | apply below_drew1 | refine below_set ?_ GE155.out) | exact HB.out)) hb); clear BK155; clear HB; have BK155 := n0_; have HB := n1_; clear n0_ n1_; (try clear hb); (try clear hb2); (try clear hk); (try clear hi); (try simp only [errW_none, errW_some])) | ((with_reducible refine gate_callee (f := 27) rfl ?_); refine goesL_ (some 24) rfl rfl Tryz.func27 (by kernel_rfl) rfl #[.string (⟨#[50, 48, 48, 49, 45, 48, 50, 45, 50, 57]⟩ : ByteArray)] rfl (by (try simp only [List.map_toArray, List.map_cons, List.map_nil]); first | done | rfl | (simp only [List.length_drop, List.length_take]; rfl)) ?_; (with_reducible refine (civil_Parse.calls (⟨#[50, 48, 48, 49, 45, 48, 50, 45, 50, 57]⟩ : ByteArray) t158 t159 t160 t161 _ (by first | exact Laid.below HL.out (by repeat (first | (with_reducible first | exact HB.out | apply below_alloc | apply pw_below_drewN | apply below_drew1 | refine below_set ?_ (Aside0.out (by assumption))) | exact HB.out))) A4.out).mono ?_); rintro e w19 ⟨rfl, hb⟩; refine ⟨_, rfl, ?_⟩; have n0_ := Aside0.mk (blk_below (g := gb155) (o := .cells #[.int .i64 t151, .int .i64 t152, .int .i64 t153] 26 (0, 0)) (by (with_reducible repeat (first | refine blk_drewN ?_ _ | refine blk_drew ?_ | refine blk_alloc ?_ _)); exact BK155.out) hb); have n1_ := Aside0.mk (below_step (by repeat (first | (with_reducible first | exact HB.out | apply below_alloc | apply pw_below_drewN | apply below_drew1 | refine below_set ?_ GE155.out) | exact HB.out)) hb); clear BK155; clear HB; have BK155 := n0_; have HB := n1_; clear n0_ n1_; (try clear hb); (try clear hb2); (try clear hk); (try clear hi); (try simp only [errW_none, errW_some])) | ((with_reducible refine gate_dst (N := 7) rfl ?_); refine box_event ?hg (N := 7) ?hd (cs := #[.int .i64 0, .int .i64 0, .int .i64 0]) (t := 26) ?hr ?_; (case hd => rfl); (case hg => rfl); (case hr => first | (go_simp; done) | (go_simp; rfl)); intro gb162 hg w20 hbox hb; have n0_ := Aside0.mk (blk_below (g := gb155) (o := .cells #[.int .i64 t151, .int .i64 t152, .int .i64 t153] 26 (0, 0)) (by (with_reducible repeat (first | refine blk_drewN ?_ _ | refine blk_drew ?_ | refine blk_alloc ?_ _)); exact BK155.out) hb); have n1_ := Aside0.mk (below_step (by repeat (first | (with_reducible first | exact HB.out | apply below_alloc | apply pw_below_drewN | apply below_drew1 | refine below_set ?_ GE155.out) | exact HB.out)) hb); have n2_ := Aside0.mk (hbox); have n3_ := Aside0.mk ((by rw [hg]; exact (below_size (by repeat (first | (with_reducible first | exact HB.out | apply below_alloc | apply pw_below_drewN | apply below_drew1 | refine below_set ?_ GE155.out) | exact HB.out))) : w.heap.size ≤ gb162)); have n4_ := Aside0.mk ((by rw [hg]; exact (below_size (by repeat (first | (with_reducible first | exact HB.out | apply below_alloc | apply pw_below_drewN | apply below_drew1 | refine below_set ?_ GE155.out) | exact HB.out))) : w.heap.size ≤ gb162)); have n5_ := Aside0.mk ((by rw [hg]; exact Nat.ne_of_lt (blk_lt (g := gb155) (o := .cells #[.int .i64 t151, .int .i64 t152, .int .i64 t153] 26 (0, 0)) (by (with_reducible repeat (first | refine blk_drewN ?_ _ | refine blk_drew ?_ | refine blk_alloc ?_ _)); exact BK155.out)) : gb155 ≠ gb162)); have n6_ := Aside0.mk ((by rw [hg]; exact Nat.ne_of_gt (blk_lt (g := gb155) (o := .cells #[.int .i64 t151, .int .i64 t152, .int .i64 t153] 26 (0, 0)) (by (with_reducible repeat (first | refine blk_drewN ?_ _ | refine blk_drew ?_ | refine blk_alloc ?_ _)); exact BK155.out)) : gb162 ≠ gb155)); clear BK155; clear HB; have BK155 := n0_; have HB := n1_; have BK162 := n2_; have GW162 := n3_; have GE162 := n4_; have NB155_162 := n5_; have NB162_155 := n6_; clear n0_ n1_ n2_ n3_ n4_ n5_ n6_; clear hb hbox hg; have hnb21 := NB162_155.out; have hnc21 := NB155_162.out; have hcz22_0 : w20.cell? ⟨gb162, 0, none⟩ = some (.int .i64 0) := (blk_cell BK162.out 0).trans rfl; have hcz22_1 : w20.cell? ⟨gb162, 1, none⟩ = some (.int .i64 0) := (blk_cell BK162.out 1).trans rfl; have hcz22_2 : w20.cell? ⟨gb162, 2, none⟩ = some (.int .i64 0) := (blk_cell BK162.out 2).trans rfl; have hfz22_0 := blk_frozen BK162.out 0; have hfz22_1 := blk_frozen BK162.out 1; have hfz22_2 := blk_frozen BK162.out 2) | (go_at_call 30; (with_reducible refine (civil_Weekday.calls t149 t166 _ A6.out).mono ?_); rintro e w' ⟨rfl, ⟨nd, rfl⟩⟩; have CA9 := fun W HL_ => fuseelaw07_num.calls t161 t167 W HL_ A9.out; try simp only [errW_none, errW_some] at CA9) | (go_at_call 23; (with_reducible refine (CA9 _ (by first | exact Laid.below HL.out (by repeat (first | (with_reducible first | exact HB.out | apply below_alloc | apply pw_below_drewN | apply below_drew1 | refine below_set ?_ (Aside0.out (by assumption))) | exact HB.out)))).mono ?_); rintro e w23 ⟨rfl, hb⟩; have n0_ := Aside0.mk (blk_below (g := gb155) (o := .cells #[.int .i64 t151, .int .i64 t152, .int .i64 t153] 26 (0, 0)) (by (with_reducible repeat (first | refine blk_drewN ?_ _ | refine blk_drew ?_ | refine blk_alloc ?_ _)); refine blk_far ?_ NB155_162.out _; (with_reducible repeat (first | refine blk_drewN ?_ _ | refine blk_drew ?_ | refine blk_alloc ?_ _)); refine blk_far ?_ NB155_162.out _; (with_reducible repeat (first | refine blk_drewN ?_ _ | refine blk_drew ?_ | refine blk_alloc ?_ _)); refine blk_far ?_ NB155_162.out _; (with_reducible repeat (first | refine blk_drewN ?_ _ | refine blk_drew ?_ | refine blk_alloc ?_ _)); exact BK155.out) hb); have n1_ := Aside0.mk (blk_below (g := gb162) (o := .cells #[.int .i64 t158, .int .i64 t159, .int .i64 t160] 26 (0, 0)) (by (with_reducible repeat (first | refine blk_drewN ?_ _ | refine blk_drew ?_ | refine blk_alloc ?_ _)); refine blk_put (cs := #[.int .i64 t158, .int .i64 t159, .int .i64 0]) ?_ 2 _ rfl; (with_reducible repeat (first | refine blk_drewN ?_ _ | refine blk_drew ?_ | refine blk_alloc ?_ _)); refine blk_put (cs := #[.int .i64 t158, .int .i64 0, .int .i64 0]) ?_ 1 _ rfl; (with_reducible repeat (first | refine blk_drewN ?_ _ | refine blk_drew ?_ | refine blk_alloc ?_ _)); refine blk_put (cs := #[.int .i64 0, .int .i64 0, .int .i64 0]) ?_ 0 _ rfl; (with_reducible repeat (first | refine blk_drewN ?_ _ | refine blk_drew ?_ | refine blk_alloc ?_ _)); exact BK162.out) hb); have n2_ := Aside0.mk (below_step (by repeat (first | (with_reducible first | exact HB.out | apply below_alloc | apply pw_below_drewN | apply below_drew1 | refine below_set ?_ GE155.out | refine below_set ?_ GE162.out) | exact HB.out)) hb); clear BK155; clear BK162; clear HB; have BK155 := n0_; have BK162 := n1_; have HB := n2_; clear n0_ n1_ n2_; (try clear hb); (try clear hb2); (try clear hk); (try clear hi)) | (go_at_call 20; (with_reducible refine (civil_Leap.calls 2000 true _ A11.out).mono ?_); rintro e w' ⟨rfl, ⟨nd, rfl⟩⟩) | (go_at_call 18; (with_reducible refine (civil_Month.calls k 1900 2 t169 _ A13.out).mono ?_); rintro e w' ⟨rfl, ⟨nd, rfl⟩⟩))
                  go_ret
                  exact ⟨by first | rfl | (simp [errW_none, errW_some] <;> rfl) | (simp [*, errW_none, errW_some] <;> rfl), by repeat (first | (with_reducible first | exact HB.out | apply below_alloc | apply pw_below_drewN | apply below_drew1 | refine below_set ?_ GE155.out | refine below_set ?_ GE162.out) | exact HB.out)⟩
                · replace c12 := Bool.eq_false_iff.mpr c12
                  subst c12
                  have H1 : (some false) = some r := by rw [if_neg (show ¬ (false = true) by decide)] at H; exact H
                  clear H
                  have H := H1
                  clear H1
                  obtain rfl := Option.some.inj H
                  go_enter Tryz.func15, Tryz.ntmps15
                  go_wp2_with (first | ((with_reducible refine gate_callee (f := 16) rfl ?_); refine goesL_ (some 11) rfl rfl Tryz.func16 (by kernel_rfl) rfl #[.agg #[.int .i64 2000, .int .i64 2, .int .i64 29]] rfl (by (try simp only [List.map_toArray, List.map_cons, List.map_nil]); first | done | rfl | (simp only [List.length_drop, List.length_take]; rfl)) ?_; (with_reducible refine (civil_Days.calls k 2000 2 29 t149 none _ A1.out).mono ?_); rintro e w24 ⟨rfl, hb⟩; refine ⟨_, rfl, ?_⟩; have n0_ := Aside0.mk (below_step (by repeat (first | (with_reducible first | exact HB.out | apply below_alloc | apply pw_below_drewN | apply below_drew1) | exact HB.out)) hb); clear HB; have HB := n0_; clear n0_; (try clear hb); (try clear hb2); (try clear hk); (try clear hi); (try simp only [errW_none, errW_some])) | ((with_reducible refine gate_callee (f := 17) rfl ?_); refine goesL_ (some 15) rfl rfl Tryz.func17 (by kernel_rfl) rfl #[.int .i64 0] rfl (by (try simp only [List.map_toArray, List.map_cons, List.map_nil]); first | done | rfl | (simp only [List.length_drop, List.length_take]; rfl)) ?_; (with_reducible refine (civil_Of.calls k 0 t151 t152 t153 none _ A2.out).mono ?_); rintro e w25 ⟨rfl, hb⟩; refine ⟨_, rfl, ?_⟩; have n0_ := Aside0.mk (below_step (by repeat (first | (with_reducible first | exact HB.out | apply below_alloc | apply pw_below_drewN | apply below_drew1) | exact HB.out)) hb); clear HB; have HB := n0_; clear n0_; (try clear hb); (try clear hb2); (try clear hk); (try clear hi); (try simp only [errW_none, errW_some])) | ((with_reducible refine gate_dst (N := 3) rfl ?_); refine box_event ?hg (N := 3) ?hd (cs := #[.int .i64 0, .int .i64 0, .int .i64 0]) (t := 26) ?hr ?_; (case hd => rfl); (case hg => rfl); (case hr => first | (go_simp; done) | (go_simp; rfl)); intro gb155 hg w26 hbox hb; have n0_ := Aside0.mk (below_step (by repeat (first | (with_reducible first | exact HB.out | apply below_alloc | apply pw_below_drewN | apply below_drew1) | exact HB.out)) hb); have n1_ := Aside0.mk (hbox); have n2_ := Aside0.mk ((by rw [hg]; exact (below_size (by repeat (first | (with_reducible first | exact HB.out | apply below_alloc | apply pw_below_drewN | apply below_drew1) | exact HB.out))) : w.heap.size ≤ gb155)); have n3_ := Aside0.mk ((by rw [hg]; exact (below_size (by repeat (first | (with_reducible first | exact HB.out | apply below_alloc | apply pw_below_drewN | apply below_drew1) | exact HB.out))) : w.heap.size ≤ gb155)); clear HB; have HB := n0_; have BK155 := n1_; have GW155 := n2_; have GE155 := n3_; clear n0_ n1_ n2_ n3_; clear hb hbox hg; have hcz27_0 : w26.cell? ⟨gb155, 0, none⟩ = some (.int .i64 0) := (blk_cell BK155.out 0).trans rfl; have hcz27_1 : w26.cell? ⟨gb155, 1, none⟩ = some (.int .i64 0) := (blk_cell BK155.out 1).trans rfl; have hcz27_2 : w26.cell? ⟨gb155, 2, none⟩ = some (.int .i64 0) := (blk_cell BK155.out 2).trans rfl; have hfz27_0 := blk_frozen BK155.out 0; have hfz27_1 := blk_frozen BK155.out 1; have hfz27_2 := blk_frozen BK155.out 2) | ((with_reducible refine gate_callee (f := 26) rfl ?_); refine goesL_ (some 20) rfl rfl Tryz.func26 (by kernel_rfl) rfl #[.agg #[.int .i64 t151, .int .i64 t152, .int .i64 t153]] rfl (by (try simp only [List.map_toArray, List.map_cons, List.map_nil]); first | done | rfl | (simp only [List.length_drop, List.length_take]; rfl)) ?_; (with_reducible refine (civil_Text.calls k t151 t152 t153 t156 none _ (by first | exact Laid.below HL.out (by repeat (first | (with_reducible first | exact HB.out | apply below_alloc | apply pw_below_drewN | apply below_drew1 | refine below_set ?_ (Aside0.out (by assumption))) | exact HB.out))) A3.out).mono ?_); rintro e w28 ⟨rfl, hb⟩; refine ⟨_, rfl, ?_⟩; have n0_ := Aside0.mk (blk_below (g := gb155) (o := .cells #[.int .i64 t151, .int .i64 t152, .int .i64 t153] 26 (0, 0)) (by (with_reducible repeat (first | refine blk_drewN ?_ _ | refine blk_drew ?_ | refine blk_alloc ?_ _)); refine blk_put (cs := #[.int .i64 t151, .int .i64 t152, .int .i64 0]) ?_ 2 _ rfl; (with_reducible repeat (first | refine blk_drewN ?_ _ | refine blk_drew ?_ | refine blk_alloc ?_ _)); refine blk_put (cs := #[.int .i64 t151, .int .i64 0, .int .i64 0]) ?_ 1 _ rfl; (with_reducible repeat (first | refine blk_drewN ?_ _ | refine blk_drew ?_ | refine blk_alloc ?_ _)); refine blk_put (cs := #[.int .i64 0, .int .i64 0, .int .i64 0]) ?_ 0 _ rfl; (with_reducible repeat (first | refine blk_drewN ?_ _ | refine blk_drew ?_ | refine blk_alloc ?_ _)); exact BK155.out) hb); have n1_ := Aside0.mk (below_step (by repeat (first | (with_reducible first | exact HB.out | apply below_alloc | apply pw_below_drewN | apply below_drew1 | refine below_set ?_ GE155.out) | exact HB.out)) hb); clear BK155; clear HB; have BK155 := n0_; have HB := n1_; clear n0_ n1_; (try clear hb); (try clear hb2); (try clear hk); (try clear hi); (try simp only [errW_none, errW_some])) | ((with_reducible refine gate_callee (f := 27) rfl ?_); refine goesL_ (some 24) rfl rfl Tryz.func27 (by kernel_rfl) rfl #[.string (⟨#[50, 48, 48, 49, 45, 48, 50, 45, 50, 57]⟩ : ByteArray)] rfl (by (try simp only [List.map_toArray, List.map_cons, List.map_nil]); first | done | rfl | (simp only [List.length_drop, List.length_take]; rfl)) ?_; (with_reducible refine (civil_Parse.calls (⟨#[50, 48, 48, 49, 45, 48, 50, 45, 50, 57]⟩ : ByteArray) t158 t159 t160 t161 _ (by first | exact Laid.below HL.out (by repeat (first | (with_reducible first | exact HB.out | apply below_alloc | apply pw_below_drewN | apply below_drew1 | refine below_set ?_ (Aside0.out (by assumption))) | exact HB.out))) A4.out).mono ?_); rintro e w29 ⟨rfl, hb⟩; refine ⟨_, rfl, ?_⟩; have n0_ := Aside0.mk (blk_below (g := gb155) (o := .cells #[.int .i64 t151, .int .i64 t152, .int .i64 t153] 26 (0, 0)) (by (with_reducible repeat (first | refine blk_drewN ?_ _ | refine blk_drew ?_ | refine blk_alloc ?_ _)); exact BK155.out) hb); have n1_ := Aside0.mk (below_step (by repeat (first | (with_reducible first | exact HB.out | apply below_alloc | apply pw_below_drewN | apply below_drew1 | refine below_set ?_ GE155.out) | exact HB.out)) hb); clear BK155; clear HB; have BK155 := n0_; have HB := n1_; clear n0_ n1_; (try clear hb); (try clear hb2); (try clear hk); (try clear hi); (try simp only [errW_none, errW_some])) | ((with_reducible refine gate_dst (N := 7) rfl ?_); refine box_event ?hg (N := 7) ?hd (cs := #[.int .i64 0, .int .i64 0, .int .i64 0]) (t := 26) ?hr ?_; (case hd => rfl); (case hg => rfl); (case hr => first | (go_simp; done) | (go_simp; rfl)); intro gb162 hg w30 hbox hb; have n0_ := Aside0.mk (blk_below (g := gb155) (o := .cells #[.int .i64 t151, .int .i64 t152, .int .i64 t153] 26 (0, 0)) (by (with_reducible repeat (first | refine blk_drewN ?_ _ | refine blk_drew ?_ | refine blk_alloc ?_ _)); exact BK155.out) hb); have n1_ := Aside0.mk (below_step (by repeat (first | (with_reducible first | exact HB.out | apply below_alloc | apply pw_below_drewN | apply below_drew1 | refine below_set ?_ GE155.out) | exact HB.out)) hb); have n2_ := Aside0.mk (hbox); have n3_ := Aside0.mk ((by rw [hg]; exact (below_size (by repeat (first | (with_reducible first | exact HB.out | apply below_alloc | apply pw_below_drewN | apply below_drew1 | refine below_set ?_ GE155.out) | exact HB.out))) : w.heap.size ≤ gb162)); have n4_ := Aside0.mk ((by rw [hg]; exact (below_size (by repeat (first | (with_reducible first | exact HB.out | apply below_alloc | apply pw_below_drewN | apply below_drew1 | refine below_set ?_ GE155.out) | exact HB.out))) : w.heap.size ≤ gb162)); have n5_ := Aside0.mk ((by rw [hg]; exact Nat.ne_of_lt (blk_lt (g := gb155) (o := .cells #[.int .i64 t151, .int .i64 t152, .int .i64 t153] 26 (0, 0)) (by (with_reducible repeat (first | refine blk_drewN ?_ _ | refine blk_drew ?_ | refine blk_alloc ?_ _)); exact BK155.out)) : gb155 ≠ gb162)); have n6_ := Aside0.mk ((by rw [hg]; exact Nat.ne_of_gt (blk_lt (g := gb155) (o := .cells #[.int .i64 t151, .int .i64 t152, .int .i64 t153] 26 (0, 0)) (by (with_reducible repeat (first | refine blk_drewN ?_ _ | refine blk_drew ?_ | refine blk_alloc ?_ _)); exact BK155.out)) : gb162 ≠ gb155)); clear BK155; clear HB; have BK155 := n0_; have HB := n1_; have BK162 := n2_; have GW162 := n3_; have GE162 := n4_; have NB155_162 := n5_; have NB162_155 := n6_; clear n0_ n1_ n2_ n3_ n4_ n5_ n6_; clear hb hbox hg; have hnb31 := NB162_155.out; have hnc31 := NB155_162.out; have hcz32_0 : w30.cell? ⟨gb162, 0, none⟩ = some (.int .i64 0) := (blk_cell BK162.out 0).trans rfl; have hcz32_1 : w30.cell? ⟨gb162, 1, none⟩ = some (.int .i64 0) := (blk_cell BK162.out 1).trans rfl; have hcz32_2 : w30.cell? ⟨gb162, 2, none⟩ = some (.int .i64 0) := (blk_cell BK162.out 2).trans rfl; have hfz32_0 := blk_frozen BK162.out 0; have hfz32_1 := blk_frozen BK162.out 1; have hfz32_2 := blk_frozen BK162.out 2) | (go_at_call 30; (with_reducible refine (civil_Weekday.calls t149 t166 _ A6.out).mono ?_); rintro e w' ⟨rfl, ⟨nd, rfl⟩⟩; have CA9 := fun W HL_ => fuseelaw07_num.calls t161 t167 W HL_ A9.out; try simp only [errW_none, errW_some] at CA9) | (go_at_call 23; (with_reducible refine (CA9 _ (by first | exact Laid.below HL.out (by repeat (first | (with_reducible first | exact HB.out | apply below_alloc | apply pw_below_drewN | apply below_drew1 | refine below_set ?_ (Aside0.out (by assumption))) | exact HB.out)))).mono ?_); rintro e w33 ⟨rfl, hb⟩; have n0_ := Aside0.mk (blk_below (g := gb155) (o := .cells #[.int .i64 t151, .int .i64 t152, .int .i64 t153] 26 (0, 0)) (by (with_reducible repeat (first | refine blk_drewN ?_ _ | refine blk_drew ?_ | refine blk_alloc ?_ _)); refine blk_far ?_ NB155_162.out _; (with_reducible repeat (first | refine blk_drewN ?_ _ | refine blk_drew ?_ | refine blk_alloc ?_ _)); refine blk_far ?_ NB155_162.out _; (with_reducible repeat (first | refine blk_drewN ?_ _ | refine blk_drew ?_ | refine blk_alloc ?_ _)); refine blk_far ?_ NB155_162.out _; (with_reducible repeat (first | refine blk_drewN ?_ _ | refine blk_drew ?_ | refine blk_alloc ?_ _)); exact BK155.out) hb); have n1_ := Aside0.mk (blk_below (g := gb162) (o := .cells #[.int .i64 t158, .int .i64 t159, .int .i64 t160] 26 (0, 0)) (by (with_reducible repeat (first | refine blk_drewN ?_ _ | refine blk_drew ?_ | refine blk_alloc ?_ _)); refine blk_put (cs := #[.int .i64 t158, .int .i64 t159, .int .i64 0]) ?_ 2 _ rfl; (with_reducible repeat (first | refine blk_drewN ?_ _ | refine blk_drew ?_ | refine blk_alloc ?_ _)); refine blk_put (cs := #[.int .i64 t158, .int .i64 0, .int .i64 0]) ?_ 1 _ rfl; (with_reducible repeat (first | refine blk_drewN ?_ _ | refine blk_drew ?_ | refine blk_alloc ?_ _)); refine blk_put (cs := #[.int .i64 0, .int .i64 0, .int .i64 0]) ?_ 0 _ rfl; (with_reducible repeat (first | refine blk_drewN ?_ _ | refine blk_drew ?_ | refine blk_alloc ?_ _)); exact BK162.out) hb); have n2_ := Aside0.mk (below_step (by repeat (first | (with_reducible first | exact HB.out | apply below_alloc | apply pw_below_drewN | apply below_drew1 | refine below_set ?_ GE155.out | refine below_set ?_ GE162.out) | exact HB.out)) hb); clear BK155; clear BK162; clear HB; have BK155 := n0_; have BK162 := n1_; have HB := n2_; clear n0_ n1_ n2_; (try clear hb); (try clear hb2); (try clear hk); (try clear hi)) | (go_at_call 20; (with_reducible refine (civil_Leap.calls 2000 false _ A11.out).mono ?_); rintro e w' ⟨rfl, ⟨nd, rfl⟩⟩))
                  go_ret
                  exact ⟨by first | rfl | (simp [errW_none, errW_some] <;> rfl) | (simp [*, errW_none, errW_some] <;> rfl), by repeat (first | (with_reducible first | exact HB.out | apply below_alloc | apply pw_below_drewN | apply below_drew1 | refine below_set ?_ GE155.out | refine below_set ?_ GE162.out) | exact HB.out)⟩
              · rw [if_neg c10] at H
                have c10b0 : (t167 == 3) = false := beq_eq_false_iff_ne.mpr c10
                have c10b1 : (t167 != 3) = true := bne_iff_ne.mpr c10
                obtain rfl := Option.some.inj H
                go_enter Tryz.func15, Tryz.ntmps15
                go_wp2_with (first | ((with_reducible refine gate_callee (f := 16) rfl ?_); refine goesL_ (some 11) rfl rfl Tryz.func16 (by kernel_rfl) rfl #[.agg #[.int .i64 2000, .int .i64 2, .int .i64 29]] rfl (by (try simp only [List.map_toArray, List.map_cons, List.map_nil]); first | done | rfl | (simp only [List.length_drop, List.length_take]; rfl)) ?_; (with_reducible refine (civil_Days.calls k 2000 2 29 t149 none _ A1.out).mono ?_); rintro e w34 ⟨rfl, hb⟩; refine ⟨_, rfl, ?_⟩; have n0_ := Aside0.mk (below_step (by repeat (first | (with_reducible first | exact HB.out | apply below_alloc | apply pw_below_drewN | apply below_drew1) | exact HB.out)) hb); clear HB; have HB := n0_; clear n0_; (try clear hb); (try clear hb2); (try clear hk); (try clear hi); (try simp only [errW_none, errW_some])) | ((with_reducible refine gate_callee (f := 17) rfl ?_); refine goesL_ (some 15) rfl rfl Tryz.func17 (by kernel_rfl) rfl #[.int .i64 0] rfl (by (try simp only [List.map_toArray, List.map_cons, List.map_nil]); first | done | rfl | (simp only [List.length_drop, List.length_take]; rfl)) ?_; (with_reducible refine (civil_Of.calls k 0 t151 t152 t153 none _ A2.out).mono ?_); rintro e w35 ⟨rfl, hb⟩; refine ⟨_, rfl, ?_⟩; have n0_ := Aside0.mk (below_step (by repeat (first | (with_reducible first | exact HB.out | apply below_alloc | apply pw_below_drewN | apply below_drew1) | exact HB.out)) hb); clear HB; have HB := n0_; clear n0_; (try clear hb); (try clear hb2); (try clear hk); (try clear hi); (try simp only [errW_none, errW_some])) | ((with_reducible refine gate_dst (N := 3) rfl ?_); refine box_event ?hg (N := 3) ?hd (cs := #[.int .i64 0, .int .i64 0, .int .i64 0]) (t := 26) ?hr ?_; (case hd => rfl); (case hg => rfl); (case hr => first | (go_simp; done) | (go_simp; rfl)); intro gb155 hg w36 hbox hb; have n0_ := Aside0.mk (below_step (by repeat (first | (with_reducible first | exact HB.out | apply below_alloc | apply pw_below_drewN | apply below_drew1) | exact HB.out)) hb); have n1_ := Aside0.mk (hbox); have n2_ := Aside0.mk ((by rw [hg]; exact (below_size (by repeat (first | (with_reducible first | exact HB.out | apply below_alloc | apply pw_below_drewN | apply below_drew1) | exact HB.out))) : w.heap.size ≤ gb155)); have n3_ := Aside0.mk ((by rw [hg]; exact (below_size (by repeat (first | (with_reducible first | exact HB.out | apply below_alloc | apply pw_below_drewN | apply below_drew1) | exact HB.out))) : w.heap.size ≤ gb155)); clear HB; have HB := n0_; have BK155 := n1_; have GW155 := n2_; have GE155 := n3_; clear n0_ n1_ n2_ n3_; clear hb hbox hg; have hcz37_0 : w36.cell? ⟨gb155, 0, none⟩ = some (.int .i64 0) := (blk_cell BK155.out 0).trans rfl; have hcz37_1 : w36.cell? ⟨gb155, 1, none⟩ = some (.int .i64 0) := (blk_cell BK155.out 1).trans rfl; have hcz37_2 : w36.cell? ⟨gb155, 2, none⟩ = some (.int .i64 0) := (blk_cell BK155.out 2).trans rfl; have hfz37_0 := blk_frozen BK155.out 0; have hfz37_1 := blk_frozen BK155.out 1; have hfz37_2 := blk_frozen BK155.out 2) | ((with_reducible refine gate_callee (f := 26) rfl ?_); refine goesL_ (some 20) rfl rfl Tryz.func26 (by kernel_rfl) rfl #[.agg #[.int .i64 t151, .int .i64 t152, .int .i64 t153]] rfl (by (try simp only [List.map_toArray, List.map_cons, List.map_nil]); first | done | rfl | (simp only [List.length_drop, List.length_take]; rfl)) ?_; (with_reducible refine (civil_Text.calls k t151 t152 t153 t156 none _ (by first | exact Laid.below HL.out (by repeat (first | (with_reducible first | exact HB.out | apply below_alloc | apply pw_below_drewN | apply below_drew1 | refine below_set ?_ (Aside0.out (by assumption))) | exact HB.out))) A3.out).mono ?_); rintro e w38 ⟨rfl, hb⟩; refine ⟨_, rfl, ?_⟩; have n0_ := Aside0.mk (blk_below (g := gb155) (o := .cells #[.int .i64 t151, .int .i64 t152, .int .i64 t153] 26 (0, 0)) (by (with_reducible repeat (first | refine blk_drewN ?_ _ | refine blk_drew ?_ | refine blk_alloc ?_ _)); refine blk_put (cs := #[.int .i64 t151, .int .i64 t152, .int .i64 0]) ?_ 2 _ rfl; (with_reducible repeat (first | refine blk_drewN ?_ _ | refine blk_drew ?_ | refine blk_alloc ?_ _)); refine blk_put (cs := #[.int .i64 t151, .int .i64 0, .int .i64 0]) ?_ 1 _ rfl; (with_reducible repeat (first | refine blk_drewN ?_ _ | refine blk_drew ?_ | refine blk_alloc ?_ _)); refine blk_put (cs := #[.int .i64 0, .int .i64 0, .int .i64 0]) ?_ 0 _ rfl; (with_reducible repeat (first | refine blk_drewN ?_ _ | refine blk_drew ?_ | refine blk_alloc ?_ _)); exact BK155.out) hb); have n1_ := Aside0.mk (below_step (by repeat (first | (with_reducible first | exact HB.out | apply below_alloc | apply pw_below_drewN | apply below_drew1 | refine below_set ?_ GE155.out) | exact HB.out)) hb); clear BK155; clear HB; have BK155 := n0_; have HB := n1_; clear n0_ n1_; (try clear hb); (try clear hb2); (try clear hk); (try clear hi); (try simp only [errW_none, errW_some])) | ((with_reducible refine gate_callee (f := 27) rfl ?_); refine goesL_ (some 24) rfl rfl Tryz.func27 (by kernel_rfl) rfl #[.string (⟨#[50, 48, 48, 49, 45, 48, 50, 45, 50, 57]⟩ : ByteArray)] rfl (by (try simp only [List.map_toArray, List.map_cons, List.map_nil]); first | done | rfl | (simp only [List.length_drop, List.length_take]; rfl)) ?_; (with_reducible refine (civil_Parse.calls (⟨#[50, 48, 48, 49, 45, 48, 50, 45, 50, 57]⟩ : ByteArray) t158 t159 t160 t161 _ (by first | exact Laid.below HL.out (by repeat (first | (with_reducible first | exact HB.out | apply below_alloc | apply pw_below_drewN | apply below_drew1 | refine below_set ?_ (Aside0.out (by assumption))) | exact HB.out))) A4.out).mono ?_); rintro e w39 ⟨rfl, hb⟩; refine ⟨_, rfl, ?_⟩; have n0_ := Aside0.mk (blk_below (g := gb155) (o := .cells #[.int .i64 t151, .int .i64 t152, .int .i64 t153] 26 (0, 0)) (by (with_reducible repeat (first | refine blk_drewN ?_ _ | refine blk_drew ?_ | refine blk_alloc ?_ _)); exact BK155.out) hb); have n1_ := Aside0.mk (below_step (by repeat (first | (with_reducible first | exact HB.out | apply below_alloc | apply pw_below_drewN | apply below_drew1 | refine below_set ?_ GE155.out) | exact HB.out)) hb); clear BK155; clear HB; have BK155 := n0_; have HB := n1_; clear n0_ n1_; (try clear hb); (try clear hb2); (try clear hk); (try clear hi); (try simp only [errW_none, errW_some])) | ((with_reducible refine gate_dst (N := 7) rfl ?_); refine box_event ?hg (N := 7) ?hd (cs := #[.int .i64 0, .int .i64 0, .int .i64 0]) (t := 26) ?hr ?_; (case hd => rfl); (case hg => rfl); (case hr => first | (go_simp; done) | (go_simp; rfl)); intro gb162 hg w40 hbox hb; have n0_ := Aside0.mk (blk_below (g := gb155) (o := .cells #[.int .i64 t151, .int .i64 t152, .int .i64 t153] 26 (0, 0)) (by (with_reducible repeat (first | refine blk_drewN ?_ _ | refine blk_drew ?_ | refine blk_alloc ?_ _)); exact BK155.out) hb); have n1_ := Aside0.mk (below_step (by repeat (first | (with_reducible first | exact HB.out | apply below_alloc | apply pw_below_drewN | apply below_drew1 | refine below_set ?_ GE155.out) | exact HB.out)) hb); have n2_ := Aside0.mk (hbox); have n3_ := Aside0.mk ((by rw [hg]; exact (below_size (by repeat (first | (with_reducible first | exact HB.out | apply below_alloc | apply pw_below_drewN | apply below_drew1 | refine below_set ?_ GE155.out) | exact HB.out))) : w.heap.size ≤ gb162)); have n4_ := Aside0.mk ((by rw [hg]; exact (below_size (by repeat (first | (with_reducible first | exact HB.out | apply below_alloc | apply pw_below_drewN | apply below_drew1 | refine below_set ?_ GE155.out) | exact HB.out))) : w.heap.size ≤ gb162)); have n5_ := Aside0.mk ((by rw [hg]; exact Nat.ne_of_lt (blk_lt (g := gb155) (o := .cells #[.int .i64 t151, .int .i64 t152, .int .i64 t153] 26 (0, 0)) (by (with_reducible repeat (first | refine blk_drewN ?_ _ | refine blk_drew ?_ | refine blk_alloc ?_ _)); exact BK155.out)) : gb155 ≠ gb162)); have n6_ := Aside0.mk ((by rw [hg]; exact Nat.ne_of_gt (blk_lt (g := gb155) (o := .cells #[.int .i64 t151, .int .i64 t152, .int .i64 t153] 26 (0, 0)) (by (with_reducible repeat (first | refine blk_drewN ?_ _ | refine blk_drew ?_ | refine blk_alloc ?_ _)); exact BK155.out)) : gb162 ≠ gb155)); clear BK155; clear HB; have BK155 := n0_; have HB := n1_; have BK162 := n2_; have GW162 := n3_; have GE162 := n4_; have NB155_162 := n5_; have NB162_155 := n6_; clear n0_ n1_ n2_ n3_ n4_ n5_ n6_; clear hb hbox hg; have hnb41 := NB162_155.out; have hnc41 := NB155_162.out; have hcz42_0 : w40.cell? ⟨gb162, 0, none⟩ = some (.int .i64 0) := (blk_cell BK162.out 0).trans rfl; have hcz42_1 : w40.cell? ⟨gb162, 1, none⟩ = some (.int .i64 0) := (blk_cell BK162.out 1).trans rfl; have hcz42_2 : w40.cell? ⟨gb162, 2, none⟩ = some (.int .i64 0) := (blk_cell BK162.out 2).trans rfl; have hfz42_0 := blk_frozen BK162.out 0; have hfz42_1 := blk_frozen BK162.out 1; have hfz42_2 := blk_frozen BK162.out 2) | (go_at_call 30; (with_reducible refine (civil_Weekday.calls t149 t166 _ A6.out).mono ?_); rintro e w' ⟨rfl, ⟨nd, rfl⟩⟩; have CA9 := fun W HL_ => fuseelaw07_num.calls t161 t167 W HL_ A9.out; try simp only [errW_none, errW_some] at CA9) | (go_at_call 23; (with_reducible refine (CA9 _ (by first | exact Laid.below HL.out (by repeat (first | (with_reducible first | exact HB.out | apply below_alloc | apply pw_below_drewN | apply below_drew1 | refine below_set ?_ (Aside0.out (by assumption))) | exact HB.out)))).mono ?_); rintro e w43 ⟨rfl, hb⟩; have n0_ := Aside0.mk (blk_below (g := gb155) (o := .cells #[.int .i64 t151, .int .i64 t152, .int .i64 t153] 26 (0, 0)) (by (with_reducible repeat (first | refine blk_drewN ?_ _ | refine blk_drew ?_ | refine blk_alloc ?_ _)); refine blk_far ?_ NB155_162.out _; (with_reducible repeat (first | refine blk_drewN ?_ _ | refine blk_drew ?_ | refine blk_alloc ?_ _)); refine blk_far ?_ NB155_162.out _; (with_reducible repeat (first | refine blk_drewN ?_ _ | refine blk_drew ?_ | refine blk_alloc ?_ _)); refine blk_far ?_ NB155_162.out _; (with_reducible repeat (first | refine blk_drewN ?_ _ | refine blk_drew ?_ | refine blk_alloc ?_ _)); exact BK155.out) hb); have n1_ := Aside0.mk (blk_below (g := gb162) (o := .cells #[.int .i64 t158, .int .i64 t159, .int .i64 t160] 26 (0, 0)) (by (with_reducible repeat (first | refine blk_drewN ?_ _ | refine blk_drew ?_ | refine blk_alloc ?_ _)); refine blk_put (cs := #[.int .i64 t158, .int .i64 t159, .int .i64 0]) ?_ 2 _ rfl; (with_reducible repeat (first | refine blk_drewN ?_ _ | refine blk_drew ?_ | refine blk_alloc ?_ _)); refine blk_put (cs := #[.int .i64 t158, .int .i64 0, .int .i64 0]) ?_ 1 _ rfl; (with_reducible repeat (first | refine blk_drewN ?_ _ | refine blk_drew ?_ | refine blk_alloc ?_ _)); refine blk_put (cs := #[.int .i64 0, .int .i64 0, .int .i64 0]) ?_ 0 _ rfl; (with_reducible repeat (first | refine blk_drewN ?_ _ | refine blk_drew ?_ | refine blk_alloc ?_ _)); exact BK162.out) hb); have n2_ := Aside0.mk (below_step (by repeat (first | (with_reducible first | exact HB.out | apply below_alloc | apply pw_below_drewN | apply below_drew1 | refine below_set ?_ GE155.out | refine below_set ?_ GE162.out) | exact HB.out)) hb); clear BK155; clear BK162; clear HB; have BK155 := n0_; have BK162 := n1_; have HB := n2_; clear n0_ n1_ n2_; (try clear hb); (try clear hb2); (try clear hk); (try clear hi)))
                go_ret
                exact ⟨by first | rfl | (simp [errW_none, errW_some] <;> rfl) | (simp [*, errW_none, errW_some] <;> rfl), by repeat (first | (with_reducible first | exact HB.out | apply below_alloc | apply pw_below_drewN | apply below_drew1 | refine below_set ?_ GE155.out | refine below_set ?_ GE162.out) | exact HB.out)⟩
            · rw [if_neg c8] at H
              have c8b0 : (t156.toList == ([49, 57, 55, 48, 45, 48, 49, 45, 48, 49] : List UInt8)) = false := beq_eq_false_iff_ne.mpr c8
              have c8b1 : (t156.toList != ([49, 57, 55, 48, 45, 48, 49, 45, 48, 49] : List UInt8)) = true := bne_iff_ne.mpr c8
              obtain rfl := Option.some.inj H
              go_enter Tryz.func15, Tryz.ntmps15
              go_wp2_with (first | ((with_reducible refine gate_callee (f := 16) rfl ?_); refine goesL_ (some 11) rfl rfl Tryz.func16 (by kernel_rfl) rfl #[.agg #[.int .i64 2000, .int .i64 2, .int .i64 29]] rfl (by (try simp only [List.map_toArray, List.map_cons, List.map_nil]); first | done | rfl | (simp only [List.length_drop, List.length_take]; rfl)) ?_; (with_reducible refine (civil_Days.calls k 2000 2 29 t149 none _ A1.out).mono ?_); rintro e w44 ⟨rfl, hb⟩; refine ⟨_, rfl, ?_⟩; have n0_ := Aside0.mk (below_step (by repeat (first | (with_reducible first | exact HB.out | apply below_alloc | apply pw_below_drewN | apply below_drew1) | exact HB.out)) hb); clear HB; have HB := n0_; clear n0_; (try clear hb); (try clear hb2); (try clear hk); (try clear hi); (try simp only [errW_none, errW_some])) | ((with_reducible refine gate_callee (f := 17) rfl ?_); refine goesL_ (some 15) rfl rfl Tryz.func17 (by kernel_rfl) rfl #[.int .i64 0] rfl (by (try simp only [List.map_toArray, List.map_cons, List.map_nil]); first | done | rfl | (simp only [List.length_drop, List.length_take]; rfl)) ?_; (with_reducible refine (civil_Of.calls k 0 t151 t152 t153 none _ A2.out).mono ?_); rintro e w45 ⟨rfl, hb⟩; refine ⟨_, rfl, ?_⟩; have n0_ := Aside0.mk (below_step (by repeat (first | (with_reducible first | exact HB.out | apply below_alloc | apply pw_below_drewN | apply below_drew1) | exact HB.out)) hb); clear HB; have HB := n0_; clear n0_; (try clear hb); (try clear hb2); (try clear hk); (try clear hi); (try simp only [errW_none, errW_some])) | ((with_reducible refine gate_dst (N := 3) rfl ?_); refine box_event ?hg (N := 3) ?hd (cs := #[.int .i64 0, .int .i64 0, .int .i64 0]) (t := 26) ?hr ?_; (case hd => rfl); (case hg => rfl); (case hr => first | (go_simp; done) | (go_simp; rfl)); intro gb155 hg w46 hbox hb; have n0_ := Aside0.mk (below_step (by repeat (first | (with_reducible first | exact HB.out | apply below_alloc | apply pw_below_drewN | apply below_drew1) | exact HB.out)) hb); have n1_ := Aside0.mk (hbox); have n2_ := Aside0.mk ((by rw [hg]; exact (below_size (by repeat (first | (with_reducible first | exact HB.out | apply below_alloc | apply pw_below_drewN | apply below_drew1) | exact HB.out))) : w.heap.size ≤ gb155)); have n3_ := Aside0.mk ((by rw [hg]; exact (below_size (by repeat (first | (with_reducible first | exact HB.out | apply below_alloc | apply pw_below_drewN | apply below_drew1) | exact HB.out))) : w.heap.size ≤ gb155)); clear HB; have HB := n0_; have BK155 := n1_; have GW155 := n2_; have GE155 := n3_; clear n0_ n1_ n2_ n3_; clear hb hbox hg; have hcz47_0 : w46.cell? ⟨gb155, 0, none⟩ = some (.int .i64 0) := (blk_cell BK155.out 0).trans rfl; have hcz47_1 : w46.cell? ⟨gb155, 1, none⟩ = some (.int .i64 0) := (blk_cell BK155.out 1).trans rfl; have hcz47_2 : w46.cell? ⟨gb155, 2, none⟩ = some (.int .i64 0) := (blk_cell BK155.out 2).trans rfl; have hfz47_0 := blk_frozen BK155.out 0; have hfz47_1 := blk_frozen BK155.out 1; have hfz47_2 := blk_frozen BK155.out 2) | ((with_reducible refine gate_callee (f := 26) rfl ?_); refine goesL_ (some 20) rfl rfl Tryz.func26 (by kernel_rfl) rfl #[.agg #[.int .i64 t151, .int .i64 t152, .int .i64 t153]] rfl (by (try simp only [List.map_toArray, List.map_cons, List.map_nil]); first | done | rfl | (simp only [List.length_drop, List.length_take]; rfl)) ?_; (with_reducible refine (civil_Text.calls k t151 t152 t153 t156 none _ (by first | exact Laid.below HL.out (by repeat (first | (with_reducible first | exact HB.out | apply below_alloc | apply pw_below_drewN | apply below_drew1 | refine below_set ?_ (Aside0.out (by assumption))) | exact HB.out))) A3.out).mono ?_); rintro e w48 ⟨rfl, hb⟩; refine ⟨_, rfl, ?_⟩; have n0_ := Aside0.mk (blk_below (g := gb155) (o := .cells #[.int .i64 t151, .int .i64 t152, .int .i64 t153] 26 (0, 0)) (by (with_reducible repeat (first | refine blk_drewN ?_ _ | refine blk_drew ?_ | refine blk_alloc ?_ _)); refine blk_put (cs := #[.int .i64 t151, .int .i64 t152, .int .i64 0]) ?_ 2 _ rfl; (with_reducible repeat (first | refine blk_drewN ?_ _ | refine blk_drew ?_ | refine blk_alloc ?_ _)); refine blk_put (cs := #[.int .i64 t151, .int .i64 0, .int .i64 0]) ?_ 1 _ rfl; (with_reducible repeat (first | refine blk_drewN ?_ _ | refine blk_drew ?_ | refine blk_alloc ?_ _)); refine blk_put (cs := #[.int .i64 0, .int .i64 0, .int .i64 0]) ?_ 0 _ rfl; (with_reducible repeat (first | refine blk_drewN ?_ _ | refine blk_drew ?_ | refine blk_alloc ?_ _)); exact BK155.out) hb); have n1_ := Aside0.mk (below_step (by repeat (first | (with_reducible first | exact HB.out | apply below_alloc | apply pw_below_drewN | apply below_drew1 | refine below_set ?_ GE155.out) | exact HB.out)) hb); clear BK155; clear HB; have BK155 := n0_; have HB := n1_; clear n0_ n1_; (try clear hb); (try clear hb2); (try clear hk); (try clear hi); (try simp only [errW_none, errW_some])) | ((with_reducible refine gate_callee (f := 27) rfl ?_); refine goesL_ (some 24) rfl rfl Tryz.func27 (by kernel_rfl) rfl #[.string (⟨#[50, 48, 48, 49, 45, 48, 50, 45, 50, 57]⟩ : ByteArray)] rfl (by (try simp only [List.map_toArray, List.map_cons, List.map_nil]); first | done | rfl | (simp only [List.length_drop, List.length_take]; rfl)) ?_; (with_reducible refine (civil_Parse.calls (⟨#[50, 48, 48, 49, 45, 48, 50, 45, 50, 57]⟩ : ByteArray) t158 t159 t160 t161 _ (by first | exact Laid.below HL.out (by repeat (first | (with_reducible first | exact HB.out | apply below_alloc | apply pw_below_drewN | apply below_drew1 | refine below_set ?_ (Aside0.out (by assumption))) | exact HB.out))) A4.out).mono ?_); rintro e w49 ⟨rfl, hb⟩; refine ⟨_, rfl, ?_⟩; have n0_ := Aside0.mk (blk_below (g := gb155) (o := .cells #[.int .i64 t151, .int .i64 t152, .int .i64 t153] 26 (0, 0)) (by (with_reducible repeat (first | refine blk_drewN ?_ _ | refine blk_drew ?_ | refine blk_alloc ?_ _)); exact BK155.out) hb); have n1_ := Aside0.mk (below_step (by repeat (first | (with_reducible first | exact HB.out | apply below_alloc | apply pw_below_drewN | apply below_drew1 | refine below_set ?_ GE155.out) | exact HB.out)) hb); clear BK155; clear HB; have BK155 := n0_; have HB := n1_; clear n0_ n1_; (try clear hb); (try clear hb2); (try clear hk); (try clear hi); (try simp only [errW_none, errW_some])) | ((with_reducible refine gate_dst (N := 7) rfl ?_); refine box_event ?hg (N := 7) ?hd (cs := #[.int .i64 0, .int .i64 0, .int .i64 0]) (t := 26) ?hr ?_; (case hd => rfl); (case hg => rfl); (case hr => first | (go_simp; done) | (go_simp; rfl)); intro gb162 hg w50 hbox hb; have n0_ := Aside0.mk (blk_below (g := gb155) (o := .cells #[.int .i64 t151, .int .i64 t152, .int .i64 t153] 26 (0, 0)) (by (with_reducible repeat (first | refine blk_drewN ?_ _ | refine blk_drew ?_ | refine blk_alloc ?_ _)); exact BK155.out) hb); have n1_ := Aside0.mk (below_step (by repeat (first | (with_reducible first | exact HB.out | apply below_alloc | apply pw_below_drewN | apply below_drew1 | refine below_set ?_ GE155.out) | exact HB.out)) hb); have n2_ := Aside0.mk (hbox); have n3_ := Aside0.mk ((by rw [hg]; exact (below_size (by repeat (first | (with_reducible first | exact HB.out | apply below_alloc | apply pw_below_drewN | apply below_drew1 | refine below_set ?_ GE155.out) | exact HB.out))) : w.heap.size ≤ gb162)); have n4_ := Aside0.mk ((by rw [hg]; exact (below_size (by repeat (first | (with_reducible first | exact HB.out | apply below_alloc | apply pw_below_drewN | apply below_drew1 | refine below_set ?_ GE155.out) | exact HB.out))) : w.heap.size ≤ gb162)); have n5_ := Aside0.mk ((by rw [hg]; exact Nat.ne_of_lt (blk_lt (g := gb155) (o := .cells #[.int .i64 t151, .int .i64 t152, .int .i64 t153] 26 (0, 0)) (by (with_reducible repeat (first | refine blk_drewN ?_ _ | refine blk_drew ?_ | refine blk_alloc ?_ _)); exact BK155.out)) : gb155 ≠ gb162)); have n6_ := Aside0.mk ((by rw [hg]; exact Nat.ne_of_gt (blk_lt (g := gb155) (o := .cells #[.int .i64 t151, .int .i64 t152, .int .i64 t153] 26 (0, 0)) (by (with_reducible repeat (first | refine blk_drewN ?_ _ | refine blk_drew ?_ | refine blk_alloc ?_ _)); exact BK155.out)) : gb162 ≠ gb155)); clear BK155; clear HB; have BK155 := n0_; have HB := n1_; have BK162 := n2_; have GW162 := n3_; have GE162 := n4_; have NB155_162 := n5_; have NB162_155 := n6_; clear n0_ n1_ n2_ n3_ n4_ n5_ n6_; clear hb hbox hg; have hnb51 := NB162_155.out; have hnc51 := NB155_162.out; have hcz52_0 : w50.cell? ⟨gb162, 0, none⟩ = some (.int .i64 0) := (blk_cell BK162.out 0).trans rfl; have hcz52_1 : w50.cell? ⟨gb162, 1, none⟩ = some (.int .i64 0) := (blk_cell BK162.out 1).trans rfl; have hcz52_2 : w50.cell? ⟨gb162, 2, none⟩ = some (.int .i64 0) := (blk_cell BK162.out 2).trans rfl; have hfz52_0 := blk_frozen BK162.out 0; have hfz52_1 := blk_frozen BK162.out 1; have hfz52_2 := blk_frozen BK162.out 2) | (go_at_call 30; (with_reducible refine (civil_Weekday.calls t149 t166 _ A6.out).mono ?_); rintro e w' ⟨rfl, ⟨nd, rfl⟩⟩))
              go_ret
              exact ⟨by first | rfl | (simp [errW_none, errW_some] <;> rfl) | (simp [*, errW_none, errW_some] <;> rfl), by repeat (first | (with_reducible first | exact HB.out | apply below_alloc | apply pw_below_drewN | apply below_drew1 | refine below_set ?_ GE155.out | refine below_set ?_ GE162.out) | exact HB.out)⟩
          · rw [if_neg c7] at H
            have c7b0 : (t166 == 2) = false := beq_eq_false_iff_ne.mpr c7
            have c7b1 : (t166 != 2) = true := bne_iff_ne.mpr c7
            obtain rfl := Option.some.inj H
            go_enter Tryz.func15, Tryz.ntmps15
            go_wp2_with (first | ((with_reducible refine gate_callee (f := 16) rfl ?_); refine goesL_ (some 11) rfl rfl Tryz.func16 (by kernel_rfl) rfl #[.agg #[.int .i64 2000, .int .i64 2, .int .i64 29]] rfl (by (try simp only [List.map_toArray, List.map_cons, List.map_nil]); first | done | rfl | (simp only [List.length_drop, List.length_take]; rfl)) ?_; (with_reducible refine (civil_Days.calls k 2000 2 29 t149 none _ A1.out).mono ?_); rintro e w53 ⟨rfl, hb⟩; refine ⟨_, rfl, ?_⟩; have n0_ := Aside0.mk (below_step (by repeat (first | (with_reducible first | exact HB.out | apply below_alloc | apply pw_below_drewN | apply below_drew1) | exact HB.out)) hb); clear HB; have HB := n0_; clear n0_; (try clear hb); (try clear hb2); (try clear hk); (try clear hi); (try simp only [errW_none, errW_some])) | ((with_reducible refine gate_callee (f := 17) rfl ?_); refine goesL_ (some 15) rfl rfl Tryz.func17 (by kernel_rfl) rfl #[.int .i64 0] rfl (by (try simp only [List.map_toArray, List.map_cons, List.map_nil]); first | done | rfl | (simp only [List.length_drop, List.length_take]; rfl)) ?_; (with_reducible refine (civil_Of.calls k 0 t151 t152 t153 none _ A2.out).mono ?_); rintro e w54 ⟨rfl, hb⟩; refine ⟨_, rfl, ?_⟩; have n0_ := Aside0.mk (below_step (by repeat (first | (with_reducible first | exact HB.out | apply below_alloc | apply pw_below_drewN | apply below_drew1) | exact HB.out)) hb); clear HB; have HB := n0_; clear n0_; (try clear hb); (try clear hb2); (try clear hk); (try clear hi); (try simp only [errW_none, errW_some])) | ((with_reducible refine gate_dst (N := 3) rfl ?_); refine box_event ?hg (N := 3) ?hd (cs := #[.int .i64 0, .int .i64 0, .int .i64 0]) (t := 26) ?hr ?_; (case hd => rfl); (case hg => rfl); (case hr => first | (go_simp; done) | (go_simp; rfl)); intro gb155 hg w55 hbox hb; have n0_ := Aside0.mk (below_step (by repeat (first | (with_reducible first | exact HB.out | apply below_alloc | apply pw_below_drewN | apply below_drew1) | exact HB.out)) hb); have n1_ := Aside0.mk (hbox); have n2_ := Aside0.mk ((by rw [hg]; exact (below_size (by repeat (first | (with_reducible first | exact HB.out | apply below_alloc | apply pw_below_drewN | apply below_drew1) | exact HB.out))) : w.heap.size ≤ gb155)); have n3_ := Aside0.mk ((by rw [hg]; exact (below_size (by repeat (first | (with_reducible first | exact HB.out | apply below_alloc | apply pw_below_drewN | apply below_drew1) | exact HB.out))) : w.heap.size ≤ gb155)); clear HB; have HB := n0_; have BK155 := n1_; have GW155 := n2_; have GE155 := n3_; clear n0_ n1_ n2_ n3_; clear hb hbox hg; have hcz56_0 : w55.cell? ⟨gb155, 0, none⟩ = some (.int .i64 0) := (blk_cell BK155.out 0).trans rfl; have hcz56_1 : w55.cell? ⟨gb155, 1, none⟩ = some (.int .i64 0) := (blk_cell BK155.out 1).trans rfl; have hcz56_2 : w55.cell? ⟨gb155, 2, none⟩ = some (.int .i64 0) := (blk_cell BK155.out 2).trans rfl; have hfz56_0 := blk_frozen BK155.out 0; have hfz56_1 := blk_frozen BK155.out 1; have hfz56_2 := blk_frozen BK155.out 2) | ((with_reducible refine gate_callee (f := 26) rfl ?_); refine goesL_ (some 20) rfl rfl Tryz.func26 (by kernel_rfl) rfl #[.agg #[.int .i64 t151, .int .i64 t152, .int .i64 t153]] rfl (by (try simp only [List.map_toArray, List.map_cons, List.map_nil]); first | done | rfl | (simp only [List.length_drop, List.length_take]; rfl)) ?_; (with_reducible refine (civil_Text.calls k t151 t152 t153 t156 none _ (by first | exact Laid.below HL.out (by repeat (first | (with_reducible first | exact HB.out | apply below_alloc | apply pw_below_drewN | apply below_drew1 | refine below_set ?_ (Aside0.out (by assumption))) | exact HB.out))) A3.out).mono ?_); rintro e w57 ⟨rfl, hb⟩; refine ⟨_, rfl, ?_⟩; have n0_ := Aside0.mk (blk_below (g := gb155) (o := .cells #[.int .i64 t151, .int .i64 t152, .int .i64 t153] 26 (0, 0)) (by (with_reducible repeat (first | refine blk_drewN ?_ _ | refine blk_drew ?_ | refine blk_alloc ?_ _)); refine blk_put (cs := #[.int .i64 t151, .int .i64 t152, .int .i64 0]) ?_ 2 _ rfl; (with_reducible repeat (first | refine blk_drewN ?_ _ | refine blk_drew ?_ | refine blk_alloc ?_ _)); refine blk_put (cs := #[.int .i64 t151, .int .i64 0, .int .i64 0]) ?_ 1 _ rfl; (with_reducible repeat (first | refine blk_drewN ?_ _ | refine blk_drew ?_ | refine blk_alloc ?_ _)); refine blk_put (cs := #[.int .i64 0, .int .i64 0, .int .i64 0]) ?_ 0 _ rfl; (with_reducible repeat (first | refine blk_drewN ?_ _ | refine blk_drew ?_ | refine blk_alloc ?_ _)); exact BK155.out) hb); have n1_ := Aside0.mk (below_step (by repeat (first | (with_reducible first | exact HB.out | apply below_alloc | apply pw_below_drewN | apply below_drew1 | refine below_set ?_ GE155.out) | exact HB.out)) hb); clear BK155; clear HB; have BK155 := n0_; have HB := n1_; clear n0_ n1_; (try clear hb); (try clear hb2); (try clear hk); (try clear hi); (try simp only [errW_none, errW_some])) | ((with_reducible refine gate_callee (f := 27) rfl ?_); refine goesL_ (some 24) rfl rfl Tryz.func27 (by kernel_rfl) rfl #[.string (⟨#[50, 48, 48, 49, 45, 48, 50, 45, 50, 57]⟩ : ByteArray)] rfl (by (try simp only [List.map_toArray, List.map_cons, List.map_nil]); first | done | rfl | (simp only [List.length_drop, List.length_take]; rfl)) ?_; (with_reducible refine (civil_Parse.calls (⟨#[50, 48, 48, 49, 45, 48, 50, 45, 50, 57]⟩ : ByteArray) t158 t159 t160 t161 _ (by first | exact Laid.below HL.out (by repeat (first | (with_reducible first | exact HB.out | apply below_alloc | apply pw_below_drewN | apply below_drew1 | refine below_set ?_ (Aside0.out (by assumption))) | exact HB.out))) A4.out).mono ?_); rintro e w58 ⟨rfl, hb⟩; refine ⟨_, rfl, ?_⟩; have n0_ := Aside0.mk (blk_below (g := gb155) (o := .cells #[.int .i64 t151, .int .i64 t152, .int .i64 t153] 26 (0, 0)) (by (with_reducible repeat (first | refine blk_drewN ?_ _ | refine blk_drew ?_ | refine blk_alloc ?_ _)); exact BK155.out) hb); have n1_ := Aside0.mk (below_step (by repeat (first | (with_reducible first | exact HB.out | apply below_alloc | apply pw_below_drewN | apply below_drew1 | refine below_set ?_ GE155.out) | exact HB.out)) hb); clear BK155; clear HB; have BK155 := n0_; have HB := n1_; clear n0_ n1_; (try clear hb); (try clear hb2); (try clear hk); (try clear hi); (try simp only [errW_none, errW_some])) | ((with_reducible refine gate_dst (N := 7) rfl ?_); refine box_event ?hg (N := 7) ?hd (cs := #[.int .i64 0, .int .i64 0, .int .i64 0]) (t := 26) ?hr ?_; (case hd => rfl); (case hg => rfl); (case hr => first | (go_simp; done) | (go_simp; rfl)); intro gb162 hg w59 hbox hb; have n0_ := Aside0.mk (blk_below (g := gb155) (o := .cells #[.int .i64 t151, .int .i64 t152, .int .i64 t153] 26 (0, 0)) (by (with_reducible repeat (first | refine blk_drewN ?_ _ | refine blk_drew ?_ | refine blk_alloc ?_ _)); exact BK155.out) hb); have n1_ := Aside0.mk (below_step (by repeat (first | (with_reducible first | exact HB.out | apply below_alloc | apply pw_below_drewN | apply below_drew1 | refine below_set ?_ GE155.out) | exact HB.out)) hb); have n2_ := Aside0.mk (hbox); have n3_ := Aside0.mk ((by rw [hg]; exact (below_size (by repeat (first | (with_reducible first | exact HB.out | apply below_alloc | apply pw_below_drewN | apply below_drew1 | refine below_set ?_ GE155.out) | exact HB.out))) : w.heap.size ≤ gb162)); have n4_ := Aside0.mk ((by rw [hg]; exact (below_size (by repeat (first | (with_reducible first | exact HB.out | apply below_alloc | apply pw_below_drewN | apply below_drew1 | refine below_set ?_ GE155.out) | exact HB.out))) : w.heap.size ≤ gb162)); have n5_ := Aside0.mk ((by rw [hg]; exact Nat.ne_of_lt (blk_lt (g := gb155) (o := .cells #[.int .i64 t151, .int .i64 t152, .int .i64 t153] 26 (0, 0)) (by (with_reducible repeat (first | refine blk_drewN ?_ _ | refine blk_drew ?_ | refine blk_alloc ?_ _)); exact BK155.out)) : gb155 ≠ gb162)); have n6_ := Aside0.mk ((by rw [hg]; exact Nat.ne_of_gt (blk_lt (g := gb155) (o := .cells #[.int .i64 t151, .int .i64 t152, .int .i64 t153] 26 (0, 0)) (by (with_reducible repeat (first | refine blk_drewN ?_ _ | refine blk_drew ?_ | refine blk_alloc ?_ _)); exact BK155.out)) : gb162 ≠ gb155)); clear BK155; clear HB; have BK155 := n0_; have HB := n1_; have BK162 := n2_; have GW162 := n3_; have GE162 := n4_; have NB155_162 := n5_; have NB162_155 := n6_; clear n0_ n1_ n2_ n3_ n4_ n5_ n6_; clear hb hbox hg; have hnb60 := NB162_155.out; have hnc60 := NB155_162.out; have hcz61_0 : w59.cell? ⟨gb162, 0, none⟩ = some (.int .i64 0) := (blk_cell BK162.out 0).trans rfl; have hcz61_1 : w59.cell? ⟨gb162, 1, none⟩ = some (.int .i64 0) := (blk_cell BK162.out 1).trans rfl; have hcz61_2 : w59.cell? ⟨gb162, 2, none⟩ = some (.int .i64 0) := (blk_cell BK162.out 2).trans rfl; have hfz61_0 := blk_frozen BK162.out 0; have hfz61_1 := blk_frozen BK162.out 1; have hfz61_2 := blk_frozen BK162.out 2) | (go_at_call 30; (with_reducible refine (civil_Weekday.calls t149 t166 _ A6.out).mono ?_); rintro e w' ⟨rfl, ⟨nd, rfl⟩⟩))
            go_ret
            exact ⟨by first | rfl | (simp [errW_none, errW_some] <;> rfl) | (simp [*, errW_none, errW_some] <;> rfl), by repeat (first | (with_reducible first | exact HB.out | apply below_alloc | apply pw_below_drewN | apply below_drew1 | refine below_set ?_ GE155.out | refine below_set ?_ GE162.out) | exact HB.out)⟩
        · rw [if_neg c5] at H
          have c5b0 : (t149 == 11016) = false := beq_eq_false_iff_ne.mpr c5
          have c5b1 : (t149 != 11016) = true := bne_iff_ne.mpr c5
          obtain rfl := Option.some.inj H
          go_enter Tryz.func15, Tryz.ntmps15
          go_wp2_with (first | ((with_reducible refine gate_callee (f := 16) rfl ?_); refine goesL_ (some 11) rfl rfl Tryz.func16 (by kernel_rfl) rfl #[.agg #[.int .i64 2000, .int .i64 2, .int .i64 29]] rfl (by (try simp only [List.map_toArray, List.map_cons, List.map_nil]); first | done | rfl | (simp only [List.length_drop, List.length_take]; rfl)) ?_; (with_reducible refine (civil_Days.calls k 2000 2 29 t149 none _ A1.out).mono ?_); rintro e w62 ⟨rfl, hb⟩; refine ⟨_, rfl, ?_⟩; have n0_ := Aside0.mk (below_step (by repeat (first | (with_reducible first | exact HB.out | apply below_alloc | apply pw_below_drewN | apply below_drew1) | exact HB.out)) hb); clear HB; have HB := n0_; clear n0_; (try clear hb); (try clear hb2); (try clear hk); (try clear hi); (try simp only [errW_none, errW_some])) | ((with_reducible refine gate_callee (f := 17) rfl ?_); refine goesL_ (some 15) rfl rfl Tryz.func17 (by kernel_rfl) rfl #[.int .i64 0] rfl (by (try simp only [List.map_toArray, List.map_cons, List.map_nil]); first | done | rfl | (simp only [List.length_drop, List.length_take]; rfl)) ?_; (with_reducible refine (civil_Of.calls k 0 t151 t152 t153 none _ A2.out).mono ?_); rintro e w63 ⟨rfl, hb⟩; refine ⟨_, rfl, ?_⟩; have n0_ := Aside0.mk (below_step (by repeat (first | (with_reducible first | exact HB.out | apply below_alloc | apply pw_below_drewN | apply below_drew1) | exact HB.out)) hb); clear HB; have HB := n0_; clear n0_; (try clear hb); (try clear hb2); (try clear hk); (try clear hi); (try simp only [errW_none, errW_some])) | ((with_reducible refine gate_dst (N := 3) rfl ?_); refine box_event ?hg (N := 3) ?hd (cs := #[.int .i64 0, .int .i64 0, .int .i64 0]) (t := 26) ?hr ?_; (case hd => rfl); (case hg => rfl); (case hr => first | (go_simp; done) | (go_simp; rfl)); intro gb155 hg w64 hbox hb; have n0_ := Aside0.mk (below_step (by repeat (first | (with_reducible first | exact HB.out | apply below_alloc | apply pw_below_drewN | apply below_drew1) | exact HB.out)) hb); have n1_ := Aside0.mk (hbox); have n2_ := Aside0.mk ((by rw [hg]; exact (below_size (by repeat (first | (with_reducible first | exact HB.out | apply below_alloc | apply pw_below_drewN | apply below_drew1) | exact HB.out))) : w.heap.size ≤ gb155)); have n3_ := Aside0.mk ((by rw [hg]; exact (below_size (by repeat (first | (with_reducible first | exact HB.out | apply below_alloc | apply pw_below_drewN | apply below_drew1) | exact HB.out))) : w.heap.size ≤ gb155)); clear HB; have HB := n0_; have BK155 := n1_; have GW155 := n2_; have GE155 := n3_; clear n0_ n1_ n2_ n3_; clear hb hbox hg; have hcz65_0 : w64.cell? ⟨gb155, 0, none⟩ = some (.int .i64 0) := (blk_cell BK155.out 0).trans rfl; have hcz65_1 : w64.cell? ⟨gb155, 1, none⟩ = some (.int .i64 0) := (blk_cell BK155.out 1).trans rfl; have hcz65_2 : w64.cell? ⟨gb155, 2, none⟩ = some (.int .i64 0) := (blk_cell BK155.out 2).trans rfl; have hfz65_0 := blk_frozen BK155.out 0; have hfz65_1 := blk_frozen BK155.out 1; have hfz65_2 := blk_frozen BK155.out 2) | ((with_reducible refine gate_callee (f := 26) rfl ?_); refine goesL_ (some 20) rfl rfl Tryz.func26 (by kernel_rfl) rfl #[.agg #[.int .i64 t151, .int .i64 t152, .int .i64 t153]] rfl (by (try simp only [List.map_toArray, List.map_cons, List.map_nil]); first | done | rfl | (simp only [List.length_drop, List.length_take]; rfl)) ?_; (with_reducible refine (civil_Text.calls k t151 t152 t153 t156 none _ (by first | exact Laid.below HL.out (by repeat (first | (with_reducible first | exact HB.out | apply below_alloc | apply pw_below_drewN | apply below_drew1 | refine below_set ?_ (Aside0.out (by assumption))) | exact HB.out))) A3.out).mono ?_); rintro e w66 ⟨rfl, hb⟩; refine ⟨_, rfl, ?_⟩; have n0_ := Aside0.mk (blk_below (g := gb155) (o := .cells #[.int .i64 t151, .int .i64 t152, .int .i64 t153] 26 (0, 0)) (by (with_reducible repeat (first | refine blk_drewN ?_ _ | refine blk_drew ?_ | refine blk_alloc ?_ _)); refine blk_put (cs := #[.int .i64 t151, .int .i64 t152, .int .i64 0]) ?_ 2 _ rfl; (with_reducible repeat (first | refine blk_drewN ?_ _ | refine blk_drew ?_ | refine blk_alloc ?_ _)); refine blk_put (cs := #[.int .i64 t151, .int .i64 0, .int .i64 0]) ?_ 1 _ rfl; (with_reducible repeat (first | refine blk_drewN ?_ _ | refine blk_drew ?_ | refine blk_alloc ?_ _)); refine blk_put (cs := #[.int .i64 0, .int .i64 0, .int .i64 0]) ?_ 0 _ rfl; (with_reducible repeat (first | refine blk_drewN ?_ _ | refine blk_drew ?_ | refine blk_alloc ?_ _)); exact BK155.out) hb); have n1_ := Aside0.mk (below_step (by repeat (first | (with_reducible first | exact HB.out | apply below_alloc | apply pw_below_drewN | apply below_drew1 | refine below_set ?_ GE155.out) | exact HB.out)) hb); clear BK155; clear HB; have BK155 := n0_; have HB := n1_; clear n0_ n1_; (try clear hb); (try clear hb2); (try clear hk); (try clear hi); (try simp only [errW_none, errW_some])) | ((with_reducible refine gate_callee (f := 27) rfl ?_); refine goesL_ (some 24) rfl rfl Tryz.func27 (by kernel_rfl) rfl #[.string (⟨#[50, 48, 48, 49, 45, 48, 50, 45, 50, 57]⟩ : ByteArray)] rfl (by (try simp only [List.map_toArray, List.map_cons, List.map_nil]); first | done | rfl | (simp only [List.length_drop, List.length_take]; rfl)) ?_; (with_reducible refine (civil_Parse.calls (⟨#[50, 48, 48, 49, 45, 48, 50, 45, 50, 57]⟩ : ByteArray) t158 t159 t160 t161 _ (by first | exact Laid.below HL.out (by repeat (first | (with_reducible first | exact HB.out | apply below_alloc | apply pw_below_drewN | apply below_drew1 | refine below_set ?_ (Aside0.out (by assumption))) | exact HB.out))) A4.out).mono ?_); rintro e w67 ⟨rfl, hb⟩; refine ⟨_, rfl, ?_⟩; have n0_ := Aside0.mk (blk_below (g := gb155) (o := .cells #[.int .i64 t151, .int .i64 t152, .int .i64 t153] 26 (0, 0)) (by (with_reducible repeat (first | refine blk_drewN ?_ _ | refine blk_drew ?_ | refine blk_alloc ?_ _)); exact BK155.out) hb); have n1_ := Aside0.mk (below_step (by repeat (first | (with_reducible first | exact HB.out | apply below_alloc | apply pw_below_drewN | apply below_drew1 | refine below_set ?_ GE155.out) | exact HB.out)) hb); clear BK155; clear HB; have BK155 := n0_; have HB := n1_; clear n0_ n1_; (try clear hb); (try clear hb2); (try clear hk); (try clear hi); (try simp only [errW_none, errW_some])) | ((with_reducible refine gate_dst (N := 7) rfl ?_); refine box_event ?hg (N := 7) ?hd (cs := #[.int .i64 0, .int .i64 0, .int .i64 0]) (t := 26) ?hr ?_; (case hd => rfl); (case hg => rfl); (case hr => first | (go_simp; done) | (go_simp; rfl)); intro gb162 hg w68 hbox hb; have n0_ := Aside0.mk (blk_below (g := gb155) (o := .cells #[.int .i64 t151, .int .i64 t152, .int .i64 t153] 26 (0, 0)) (by (with_reducible repeat (first | refine blk_drewN ?_ _ | refine blk_drew ?_ | refine blk_alloc ?_ _)); exact BK155.out) hb); have n1_ := Aside0.mk (below_step (by repeat (first | (with_reducible first | exact HB.out | apply below_alloc | apply pw_below_drewN | apply below_drew1 | refine below_set ?_ GE155.out) | exact HB.out)) hb); have n2_ := Aside0.mk (hbox); have n3_ := Aside0.mk ((by rw [hg]; exact (below_size (by repeat (first | (with_reducible first | exact HB.out | apply below_alloc | apply pw_below_drewN | apply below_drew1 | refine below_set ?_ GE155.out) | exact HB.out))) : w.heap.size ≤ gb162)); have n4_ := Aside0.mk ((by rw [hg]; exact (below_size (by repeat (first | (with_reducible first | exact HB.out | apply below_alloc | apply pw_below_drewN | apply below_drew1 | refine below_set ?_ GE155.out) | exact HB.out))) : w.heap.size ≤ gb162)); have n5_ := Aside0.mk ((by rw [hg]; exact Nat.ne_of_lt (blk_lt (g := gb155) (o := .cells #[.int .i64 t151, .int .i64 t152, .int .i64 t153] 26 (0, 0)) (by (with_reducible repeat (first | refine blk_drewN ?_ _ | refine blk_drew ?_ | refine blk_alloc ?_ _)); exact BK155.out)) : gb155 ≠ gb162)); have n6_ := Aside0.mk ((by rw [hg]; exact Nat.ne_of_gt (blk_lt (g := gb155) (o := .cells #[.int .i64 t151, .int .i64 t152, .int .i64 t153] 26 (0, 0)) (by (with_reducible repeat (first | refine blk_drewN ?_ _ | refine blk_drew ?_ | refine blk_alloc ?_ _)); exact BK155.out)) : gb162 ≠ gb155)); clear BK155; clear HB; have BK155 := n0_; have HB := n1_; have BK162 := n2_; have GW162 := n3_; have GE162 := n4_; have NB155_162 := n5_; have NB162_155 := n6_; clear n0_ n1_ n2_ n3_ n4_ n5_ n6_; clear hb hbox hg; have hnb69 := NB162_155.out; have hnc69 := NB155_162.out; have hcz70_0 : w68.cell? ⟨gb162, 0, none⟩ = some (.int .i64 0) := (blk_cell BK162.out 0).trans rfl; have hcz70_1 : w68.cell? ⟨gb162, 1, none⟩ = some (.int .i64 0) := (blk_cell BK162.out 1).trans rfl; have hcz70_2 : w68.cell? ⟨gb162, 2, none⟩ = some (.int .i64 0) := (blk_cell BK162.out 2).trans rfl; have hfz70_0 := blk_frozen BK162.out 0; have hfz70_1 := blk_frozen BK162.out 1; have hfz70_2 := blk_frozen BK162.out 2))
          go_ret
          exact ⟨by first | rfl | (simp [errW_none, errW_some] <;> rfl) | (simp [*, errW_none, errW_some] <;> rfl), by repeat (first | (with_reducible first | exact HB.out | apply below_alloc | apply pw_below_drewN | apply below_drew1 | refine below_set ?_ GE155.out | refine below_set ?_ GE162.out) | exact HB.out)⟩
      · rw [if_neg (show ¬ (some q165).isNone = true by simp)] at H
        try dsimp only [Option.getD_some] at H
        try simp only [errW_none, errW_some]
        obtain rfl := Option.some.inj H
        go_enter Tryz.func15, Tryz.ntmps15
        go_wp2_with (first | ((with_reducible refine gate_callee (f := 16) rfl ?_); refine goesL_ (some 11) rfl rfl Tryz.func16 (by kernel_rfl) rfl #[.agg #[.int .i64 2000, .int .i64 2, .int .i64 29]] rfl (by (try simp only [List.map_toArray, List.map_cons, List.map_nil]); first | done | rfl | (simp only [List.length_drop, List.length_take]; rfl)) ?_; (with_reducible refine (civil_Days.calls k 2000 2 29 t149 none _ A1.out).mono ?_); rintro e w71 ⟨rfl, hb⟩; refine ⟨_, rfl, ?_⟩; have n0_ := Aside0.mk (below_step (by repeat (first | (with_reducible first | exact HB.out | apply below_alloc | apply pw_below_drewN | apply below_drew1) | exact HB.out)) hb); clear HB; have HB := n0_; clear n0_; (try clear hb); (try clear hb2); (try clear hk); (try clear hi); (try simp only [errW_none, errW_some])) | ((with_reducible refine gate_callee (f := 17) rfl ?_); refine goesL_ (some 15) rfl rfl Tryz.func17 (by kernel_rfl) rfl #[.int .i64 0] rfl (by (try simp only [List.map_toArray, List.map_cons, List.map_nil]); first | done | rfl | (simp only [List.length_drop, List.length_take]; rfl)) ?_; (with_reducible refine (civil_Of.calls k 0 t151 t152 t153 none _ A2.out).mono ?_); rintro e w72 ⟨rfl, hb⟩; refine ⟨_, rfl, ?_⟩; have n0_ := Aside0.mk (below_step (by repeat (first | (with_reducible first | exact HB.out | apply below_alloc | apply pw_below_drewN | apply below_drew1) | exact HB.out)) hb); clear HB; have HB := n0_; clear n0_; (try clear hb); (try clear hb2); (try clear hk); (try clear hi); (try simp only [errW_none, errW_some])) | ((with_reducible refine gate_dst (N := 3) rfl ?_); refine box_event ?hg (N := 3) ?hd (cs := #[.int .i64 0, .int .i64 0, .int .i64 0]) (t := 26) ?hr ?_; (case hd => rfl); (case hg => rfl); (case hr => first | (go_simp; done) | (go_simp; rfl)); intro gb155 hg w73 hbox hb; have n0_ := Aside0.mk (below_step (by repeat (first | (with_reducible first | exact HB.out | apply below_alloc | apply pw_below_drewN | apply below_drew1) | exact HB.out)) hb); have n1_ := Aside0.mk (hbox); have n2_ := Aside0.mk ((by rw [hg]; exact (below_size (by repeat (first | (with_reducible first | exact HB.out | apply below_alloc | apply pw_below_drewN | apply below_drew1) | exact HB.out))) : w.heap.size ≤ gb155)); have n3_ := Aside0.mk ((by rw [hg]; exact (below_size (by repeat (first | (with_reducible first | exact HB.out | apply below_alloc | apply pw_below_drewN | apply below_drew1) | exact HB.out))) : w.heap.size ≤ gb155)); clear HB; have HB := n0_; have BK155 := n1_; have GW155 := n2_; have GE155 := n3_; clear n0_ n1_ n2_ n3_; clear hb hbox hg; have hcz74_0 : w73.cell? ⟨gb155, 0, none⟩ = some (.int .i64 0) := (blk_cell BK155.out 0).trans rfl; have hcz74_1 : w73.cell? ⟨gb155, 1, none⟩ = some (.int .i64 0) := (blk_cell BK155.out 1).trans rfl; have hcz74_2 : w73.cell? ⟨gb155, 2, none⟩ = some (.int .i64 0) := (blk_cell BK155.out 2).trans rfl; have hfz74_0 := blk_frozen BK155.out 0; have hfz74_1 := blk_frozen BK155.out 1; have hfz74_2 := blk_frozen BK155.out 2) | ((with_reducible refine gate_callee (f := 26) rfl ?_); refine goesL_ (some 20) rfl rfl Tryz.func26 (by kernel_rfl) rfl #[.agg #[.int .i64 t151, .int .i64 t152, .int .i64 t153]] rfl (by (try simp only [List.map_toArray, List.map_cons, List.map_nil]); first | done | rfl | (simp only [List.length_drop, List.length_take]; rfl)) ?_; (with_reducible refine (civil_Text.calls k t151 t152 t153 t156 (some q165) _ (by first | exact Laid.below HL.out (by repeat (first | (with_reducible first | exact HB.out | apply below_alloc | apply pw_below_drewN | apply below_drew1 | refine below_set ?_ (Aside0.out (by assumption))) | exact HB.out))) A3.out).mono ?_); rintro e w75 ⟨rfl, hb⟩; refine ⟨_, rfl, ?_⟩; have n0_ := Aside0.mk (blk_below (g := gb155) (o := .cells #[.int .i64 t151, .int .i64 t152, .int .i64 t153] 26 (0, 0)) (by (with_reducible repeat (first | refine blk_drewN ?_ _ | refine blk_drew ?_ | refine blk_alloc ?_ _)); refine blk_put (cs := #[.int .i64 t151, .int .i64 t152, .int .i64 0]) ?_ 2 _ rfl; (with_reducible repeat (first | refine blk_drewN ?_ _ | refine blk_drew ?_ | refine blk_alloc ?_ _)); refine blk_put (cs := #[.int .i64 t151, .int .i64 0, .int .i64 0]) ?_ 1 _ rfl; (with_reducible repeat (first | refine blk_drewN ?_ _ | refine blk_drew ?_ | refine blk_alloc ?_ _)); refine blk_put (cs := #[.int .i64 0, .int .i64 0, .int .i64 0]) ?_ 0 _ rfl; (with_reducible repeat (first | refine blk_drewN ?_ _ | refine blk_drew ?_ | refine blk_alloc ?_ _)); exact BK155.out) hb); have n1_ := Aside0.mk (below_step (by repeat (first | (with_reducible first | exact HB.out | apply below_alloc | apply pw_below_drewN | apply below_drew1 | refine below_set ?_ GE155.out) | exact HB.out)) hb); clear BK155; clear HB; have BK155 := n0_; have HB := n1_; clear n0_ n1_; (try clear hb); (try clear hb2); (try clear hk); (try clear hi); (try simp only [errW_none, errW_some])) | ((with_reducible refine gate_callee (f := 27) rfl ?_); refine goesL_ (some 24) rfl rfl Tryz.func27 (by kernel_rfl) rfl #[.string (⟨#[50, 48, 48, 49, 45, 48, 50, 45, 50, 57]⟩ : ByteArray)] rfl (by (try simp only [List.map_toArray, List.map_cons, List.map_nil]); first | done | rfl | (simp only [List.length_drop, List.length_take]; rfl)) ?_; (with_reducible refine (civil_Parse.calls (⟨#[50, 48, 48, 49, 45, 48, 50, 45, 50, 57]⟩ : ByteArray) t158 t159 t160 t161 _ (by first | exact Laid.below HL.out (by repeat (first | (with_reducible first | exact HB.out | apply below_alloc | apply pw_below_drewN | apply below_drew1 | refine below_set ?_ (Aside0.out (by assumption))) | exact HB.out))) A4.out).mono ?_); rintro e w76 ⟨rfl, hb⟩; refine ⟨_, rfl, ?_⟩; have n0_ := Aside0.mk (blk_below (g := gb155) (o := .cells #[.int .i64 t151, .int .i64 t152, .int .i64 t153] 26 (0, 0)) (by (with_reducible repeat (first | refine blk_drewN ?_ _ | refine blk_drew ?_ | refine blk_alloc ?_ _)); exact BK155.out) hb); have n1_ := Aside0.mk (below_step (by repeat (first | (with_reducible first | exact HB.out | apply below_alloc | apply pw_below_drewN | apply below_drew1 | refine below_set ?_ GE155.out) | exact HB.out)) hb); clear BK155; clear HB; have BK155 := n0_; have HB := n1_; clear n0_ n1_; (try clear hb); (try clear hb2); (try clear hk); (try clear hi); (try simp only [errW_none, errW_some])) | ((with_reducible refine gate_dst (N := 7) rfl ?_); refine box_event ?hg (N := 7) ?hd (cs := #[.int .i64 0, .int .i64 0, .int .i64 0]) (t := 26) ?hr ?_; (case hd => rfl); (case hg => rfl); (case hr => first | (go_simp; done) | (go_simp; rfl)); intro gb162 hg w77 hbox hb; have n0_ := Aside0.mk (blk_below (g := gb155) (o := .cells #[.int .i64 t151, .int .i64 t152, .int .i64 t153] 26 (0, 0)) (by (with_reducible repeat (first | refine blk_drewN ?_ _ | refine blk_drew ?_ | refine blk_alloc ?_ _)); exact BK155.out) hb); have n1_ := Aside0.mk (below_step (by repeat (first | (with_reducible first | exact HB.out | apply below_alloc | apply pw_below_drewN | apply below_drew1 | refine below_set ?_ GE155.out) | exact HB.out)) hb); have n2_ := Aside0.mk (hbox); have n3_ := Aside0.mk ((by rw [hg]; exact (below_size (by repeat (first | (with_reducible first | exact HB.out | apply below_alloc | apply pw_below_drewN | apply below_drew1 | refine below_set ?_ GE155.out) | exact HB.out))) : w.heap.size ≤ gb162)); have n4_ := Aside0.mk ((by rw [hg]; exact (below_size (by repeat (first | (with_reducible first | exact HB.out | apply below_alloc | apply pw_below_drewN | apply below_drew1 | refine below_set ?_ GE155.out) | exact HB.out))) : w.heap.size ≤ gb162)); have n5_ := Aside0.mk ((by rw [hg]; exact Nat.ne_of_lt (blk_lt (g := gb155) (o := .cells #[.int .i64 t151, .int .i64 t152, .int .i64 t153] 26 (0, 0)) (by (with_reducible repeat (first | refine blk_drewN ?_ _ | refine blk_drew ?_ | refine blk_alloc ?_ _)); exact BK155.out)) : gb155 ≠ gb162)); have n6_ := Aside0.mk ((by rw [hg]; exact Nat.ne_of_gt (blk_lt (g := gb155) (o := .cells #[.int .i64 t151, .int .i64 t152, .int .i64 t153] 26 (0, 0)) (by (with_reducible repeat (first | refine blk_drewN ?_ _ | refine blk_drew ?_ | refine blk_alloc ?_ _)); exact BK155.out)) : gb162 ≠ gb155)); clear BK155; clear HB; have BK155 := n0_; have HB := n1_; have BK162 := n2_; have GW162 := n3_; have GE162 := n4_; have NB155_162 := n5_; have NB162_155 := n6_; clear n0_ n1_ n2_ n3_ n4_ n5_ n6_; clear hb hbox hg; have hnb78 := NB162_155.out; have hnc78 := NB155_162.out; have hcz79_0 : w77.cell? ⟨gb162, 0, none⟩ = some (.int .i64 0) := (blk_cell BK162.out 0).trans rfl; have hcz79_1 : w77.cell? ⟨gb162, 1, none⟩ = some (.int .i64 0) := (blk_cell BK162.out 1).trans rfl; have hcz79_2 : w77.cell? ⟨gb162, 2, none⟩ = some (.int .i64 0) := (blk_cell BK162.out 2).trans rfl; have hfz79_0 := blk_frozen BK162.out 0; have hfz79_1 := blk_frozen BK162.out 1; have hfz79_2 := blk_frozen BK162.out 2))
        go_ret
        exact ⟨by first | rfl | (simp [errW_none, errW_some] <;> rfl) | (simp [*, errW_none, errW_some] <;> rfl), by repeat (first | (with_reducible first | exact HB.out | apply below_alloc | apply pw_below_drewN | apply below_drew1 | refine below_set ?_ GE155.out | refine below_set ?_ GE162.out) | exact HB.out)⟩
    · rw [if_neg (show ¬ (some q164).isNone = true by simp)] at H
      try dsimp only [Option.getD_some] at H
      try simp only [errW_none, errW_some]
      obtain rfl := Option.some.inj H
      go_enter Tryz.func15, Tryz.ntmps15
      go_wp2_with (first | ((with_reducible refine gate_callee (f := 16) rfl ?_); refine goesL_ (some 11) rfl rfl Tryz.func16 (by kernel_rfl) rfl #[.agg #[.int .i64 2000, .int .i64 2, .int .i64 29]] rfl (by (try simp only [List.map_toArray, List.map_cons, List.map_nil]); first | done | rfl | (simp only [List.length_drop, List.length_take]; rfl)) ?_; (with_reducible refine (civil_Days.calls k 2000 2 29 t149 none _ A1.out).mono ?_); rintro e w80 ⟨rfl, hb⟩; refine ⟨_, rfl, ?_⟩; have n0_ := Aside0.mk (below_step (by repeat (first | (with_reducible first | exact HB.out | apply below_alloc | apply pw_below_drewN | apply below_drew1) | exact HB.out)) hb); clear HB; have HB := n0_; clear n0_; (try clear hb); (try clear hb2); (try clear hk); (try clear hi); (try simp only [errW_none, errW_some])) | ((with_reducible refine gate_callee (f := 17) rfl ?_); refine goesL_ (some 15) rfl rfl Tryz.func17 (by kernel_rfl) rfl #[.int .i64 0] rfl (by (try simp only [List.map_toArray, List.map_cons, List.map_nil]); first | done | rfl | (simp only [List.length_drop, List.length_take]; rfl)) ?_; (with_reducible refine (civil_Of.calls k 0 t151 t152 t153 (some q164) _ A2.out).mono ?_); rintro e w81 ⟨rfl, hb⟩; refine ⟨_, rfl, ?_⟩; have n0_ := Aside0.mk (below_step (by repeat (first | (with_reducible first | exact HB.out | apply below_alloc | apply pw_below_drewN | apply below_drew1) | exact HB.out)) hb); clear HB; have HB := n0_; clear n0_; (try clear hb); (try clear hb2); (try clear hk); (try clear hi); (try simp only [errW_none, errW_some])) | ((with_reducible refine gate_dst (N := 3) rfl ?_); refine box_event ?hg (N := 3) ?hd (cs := #[.int .i64 0, .int .i64 0, .int .i64 0]) (t := 26) ?hr ?_; (case hd => rfl); (case hg => rfl); (case hr => first | (go_simp; done) | (go_simp; rfl)); intro gb155 hg w82 hbox hb; have n0_ := Aside0.mk (below_step (by repeat (first | (with_reducible first | exact HB.out | apply below_alloc | apply pw_below_drewN | apply below_drew1) | exact HB.out)) hb); have n1_ := Aside0.mk (hbox); have n2_ := Aside0.mk ((by rw [hg]; exact (below_size (by repeat (first | (with_reducible first | exact HB.out | apply below_alloc | apply pw_below_drewN | apply below_drew1) | exact HB.out))) : w.heap.size ≤ gb155)); have n3_ := Aside0.mk ((by rw [hg]; exact (below_size (by repeat (first | (with_reducible first | exact HB.out | apply below_alloc | apply pw_below_drewN | apply below_drew1) | exact HB.out))) : w.heap.size ≤ gb155)); clear HB; have HB := n0_; have BK155 := n1_; have GW155 := n2_; have GE155 := n3_; clear n0_ n1_ n2_ n3_; clear hb hbox hg; have hcz83_0 : w82.cell? ⟨gb155, 0, none⟩ = some (.int .i64 0) := (blk_cell BK155.out 0).trans rfl; have hcz83_1 : w82.cell? ⟨gb155, 1, none⟩ = some (.int .i64 0) := (blk_cell BK155.out 1).trans rfl; have hcz83_2 : w82.cell? ⟨gb155, 2, none⟩ = some (.int .i64 0) := (blk_cell BK155.out 2).trans rfl; have hfz83_0 := blk_frozen BK155.out 0; have hfz83_1 := blk_frozen BK155.out 1; have hfz83_2 := blk_frozen BK155.out 2) | ((with_reducible refine gate_callee (f := 26) rfl ?_); refine goesL_ (some 20) rfl rfl Tryz.func26 (by kernel_rfl) rfl #[.agg #[.int .i64 t151, .int .i64 t152, .int .i64 t153]] rfl (by (try simp only [List.map_toArray, List.map_cons, List.map_nil]); first | done | rfl | (simp only [List.length_drop, List.length_take]; rfl)) ?_; (with_reducible refine (civil_Text.calls k t151 t152 t153 t156 t157 _ (by first | exact Laid.below HL.out (by repeat (first | (with_reducible first | exact HB.out | apply below_alloc | apply pw_below_drewN | apply below_drew1 | refine below_set ?_ (Aside0.out (by assumption))) | exact HB.out))) A3.out).mono ?_); rintro e w84 ⟨rfl, hb⟩; refine ⟨_, rfl, ?_⟩; have n0_ := Aside0.mk (blk_below (g := gb155) (o := .cells #[.int .i64 t151, .int .i64 t152, .int .i64 t153] 26 (0, 0)) (by (with_reducible repeat (first | refine blk_drewN ?_ _ | refine blk_drew ?_ | refine blk_alloc ?_ _)); refine blk_put (cs := #[.int .i64 t151, .int .i64 t152, .int .i64 0]) ?_ 2 _ rfl; (with_reducible repeat (first | refine blk_drewN ?_ _ | refine blk_drew ?_ | refine blk_alloc ?_ _)); refine blk_put (cs := #[.int .i64 t151, .int .i64 0, .int .i64 0]) ?_ 1 _ rfl; (with_reducible repeat (first | refine blk_drewN ?_ _ | refine blk_drew ?_ | refine blk_alloc ?_ _)); refine blk_put (cs := #[.int .i64 0, .int .i64 0, .int .i64 0]) ?_ 0 _ rfl; (with_reducible repeat (first | refine blk_drewN ?_ _ | refine blk_drew ?_ | refine blk_alloc ?_ _)); exact BK155.out) hb); have n1_ := Aside0.mk (below_step (by repeat (first | (with_reducible first | exact HB.out | apply below_alloc | apply pw_below_drewN | apply below_drew1 | refine below_set ?_ GE155.out) | exact HB.out)) hb); clear BK155; clear HB; have BK155 := n0_; have HB := n1_; clear n0_ n1_; (try clear hb); (try clear hb2); (try clear hk); (try clear hi); (try simp only [errW_none, errW_some])) | ((with_reducible refine gate_callee (f := 27) rfl ?_); refine goesL_ (some 24) rfl rfl Tryz.func27 (by kernel_rfl) rfl #[.string (⟨#[50, 48, 48, 49, 45, 48, 50, 45, 50, 57]⟩ : ByteArray)] rfl (by (try simp only [List.map_toArray, List.map_cons, List.map_nil]); first | done | rfl | (simp only [List.length_drop, List.length_take]; rfl)) ?_; (with_reducible refine (civil_Parse.calls (⟨#[50, 48, 48, 49, 45, 48, 50, 45, 50, 57]⟩ : ByteArray) t158 t159 t160 t161 _ (by first | exact Laid.below HL.out (by repeat (first | (with_reducible first | exact HB.out | apply below_alloc | apply pw_below_drewN | apply below_drew1 | refine below_set ?_ (Aside0.out (by assumption))) | exact HB.out))) A4.out).mono ?_); rintro e w85 ⟨rfl, hb⟩; refine ⟨_, rfl, ?_⟩; have n0_ := Aside0.mk (blk_below (g := gb155) (o := .cells #[.int .i64 t151, .int .i64 t152, .int .i64 t153] 26 (0, 0)) (by (with_reducible repeat (first | refine blk_drewN ?_ _ | refine blk_drew ?_ | refine blk_alloc ?_ _)); exact BK155.out) hb); have n1_ := Aside0.mk (below_step (by repeat (first | (with_reducible first | exact HB.out | apply below_alloc | apply pw_below_drewN | apply below_drew1 | refine below_set ?_ GE155.out) | exact HB.out)) hb); clear BK155; clear HB; have BK155 := n0_; have HB := n1_; clear n0_ n1_; (try clear hb); (try clear hb2); (try clear hk); (try clear hi); (try simp only [errW_none, errW_some])) | ((with_reducible refine gate_dst (N := 7) rfl ?_); refine box_event ?hg (N := 7) ?hd (cs := #[.int .i64 0, .int .i64 0, .int .i64 0]) (t := 26) ?hr ?_; (case hd => rfl); (case hg => rfl); (case hr => first | (go_simp; done) | (go_simp; rfl)); intro gb162 hg w86 hbox hb; have n0_ := Aside0.mk (blk_below (g := gb155) (o := .cells #[.int .i64 t151, .int .i64 t152, .int .i64 t153] 26 (0, 0)) (by (with_reducible repeat (first | refine blk_drewN ?_ _ | refine blk_drew ?_ | refine blk_alloc ?_ _)); exact BK155.out) hb); have n1_ := Aside0.mk (below_step (by repeat (first | (with_reducible first | exact HB.out | apply below_alloc | apply pw_below_drewN | apply below_drew1 | refine below_set ?_ GE155.out) | exact HB.out)) hb); have n2_ := Aside0.mk (hbox); have n3_ := Aside0.mk ((by rw [hg]; exact (below_size (by repeat (first | (with_reducible first | exact HB.out | apply below_alloc | apply pw_below_drewN | apply below_drew1 | refine below_set ?_ GE155.out) | exact HB.out))) : w.heap.size ≤ gb162)); have n4_ := Aside0.mk ((by rw [hg]; exact (below_size (by repeat (first | (with_reducible first | exact HB.out | apply below_alloc | apply pw_below_drewN | apply below_drew1 | refine below_set ?_ GE155.out) | exact HB.out))) : w.heap.size ≤ gb162)); have n5_ := Aside0.mk ((by rw [hg]; exact Nat.ne_of_lt (blk_lt (g := gb155) (o := .cells #[.int .i64 t151, .int .i64 t152, .int .i64 t153] 26 (0, 0)) (by (with_reducible repeat (first | refine blk_drewN ?_ _ | refine blk_drew ?_ | refine blk_alloc ?_ _)); exact BK155.out)) : gb155 ≠ gb162)); have n6_ := Aside0.mk ((by rw [hg]; exact Nat.ne_of_gt (blk_lt (g := gb155) (o := .cells #[.int .i64 t151, .int .i64 t152, .int .i64 t153] 26 (0, 0)) (by (with_reducible repeat (first | refine blk_drewN ?_ _ | refine blk_drew ?_ | refine blk_alloc ?_ _)); exact BK155.out)) : gb162 ≠ gb155)); clear BK155; clear HB; have BK155 := n0_; have HB := n1_; have BK162 := n2_; have GW162 := n3_; have GE162 := n4_; have NB155_162 := n5_; have NB162_155 := n6_; clear n0_ n1_ n2_ n3_ n4_ n5_ n6_; clear hb hbox hg; have hnb87 := NB162_155.out; have hnc87 := NB155_162.out; have hcz88_0 : w86.cell? ⟨gb162, 0, none⟩ = some (.int .i64 0) := (blk_cell BK162.out 0).trans rfl; have hcz88_1 : w86.cell? ⟨gb162, 1, none⟩ = some (.int .i64 0) := (blk_cell BK162.out 1).trans rfl; have hcz88_2 : w86.cell? ⟨gb162, 2, none⟩ = some (.int .i64 0) := (blk_cell BK162.out 2).trans rfl; have hfz88_0 := blk_frozen BK162.out 0; have hfz88_1 := blk_frozen BK162.out 1; have hfz88_2 := blk_frozen BK162.out 2))
      go_ret
      exact ⟨by first | rfl | (simp [errW_none, errW_some] <;> rfl) | (simp [*, errW_none, errW_some] <;> rfl), by repeat (first | (with_reducible first | exact HB.out | apply below_alloc | apply pw_below_drewN | apply below_drew1 | refine below_set ?_ GE155.out | refine below_set ?_ GE162.out) | exact HB.out)⟩
  · rw [if_neg (show ¬ (some q163).isNone = true by simp)] at H
    try dsimp only [Option.getD_some] at H
    try simp only [errW_none, errW_some]
    obtain rfl := Option.some.inj H
    go_enter Tryz.func15, Tryz.ntmps15
    go_wp2_with (first | ((with_reducible refine gate_callee (f := 16) rfl ?_); refine goesL_ (some 11) rfl rfl Tryz.func16 (by kernel_rfl) rfl #[.agg #[.int .i64 2000, .int .i64 2, .int .i64 29]] rfl (by (try simp only [List.map_toArray, List.map_cons, List.map_nil]); first | done | rfl | (simp only [List.length_drop, List.length_take]; rfl)) ?_; (with_reducible refine (civil_Days.calls k 2000 2 29 t149 (some q163) _ A1.out).mono ?_); rintro e w89 ⟨rfl, hb⟩; refine ⟨_, rfl, ?_⟩; have n0_ := Aside0.mk (below_step (by repeat (first | (with_reducible first | exact HB.out | apply below_alloc | apply pw_below_drewN | apply below_drew1) | exact HB.out)) hb); clear HB; have HB := n0_; clear n0_; (try clear hb); (try clear hb2); (try clear hk); (try clear hi); (try simp only [errW_none, errW_some])) | ((with_reducible refine gate_callee (f := 17) rfl ?_); refine goesL_ (some 15) rfl rfl Tryz.func17 (by kernel_rfl) rfl #[.int .i64 0] rfl (by (try simp only [List.map_toArray, List.map_cons, List.map_nil]); first | done | rfl | (simp only [List.length_drop, List.length_take]; rfl)) ?_; (with_reducible refine (civil_Of.calls k 0 t151 t152 t153 t154 _ A2.out).mono ?_); rintro e w90 ⟨rfl, hb⟩; refine ⟨_, rfl, ?_⟩; have n0_ := Aside0.mk (below_step (by repeat (first | (with_reducible first | exact HB.out | apply below_alloc | apply pw_below_drewN | apply below_drew1) | exact HB.out)) hb); clear HB; have HB := n0_; clear n0_; (try clear hb); (try clear hb2); (try clear hk); (try clear hi); (try simp only [errW_none, errW_some])) | ((with_reducible refine gate_dst (N := 3) rfl ?_); refine box_event ?hg (N := 3) ?hd (cs := #[.int .i64 0, .int .i64 0, .int .i64 0]) (t := 26) ?hr ?_; (case hd => rfl); (case hg => rfl); (case hr => first | (go_simp; done) | (go_simp; rfl)); intro gb155 hg w91 hbox hb; have n0_ := Aside0.mk (below_step (by repeat (first | (with_reducible first | exact HB.out | apply below_alloc | apply pw_below_drewN | apply below_drew1) | exact HB.out)) hb); have n1_ := Aside0.mk (hbox); have n2_ := Aside0.mk ((by rw [hg]; exact (below_size (by repeat (first | (with_reducible first | exact HB.out | apply below_alloc | apply pw_below_drewN | apply below_drew1) | exact HB.out))) : w.heap.size ≤ gb155)); have n3_ := Aside0.mk ((by rw [hg]; exact (below_size (by repeat (first | (with_reducible first | exact HB.out | apply below_alloc | apply pw_below_drewN | apply below_drew1) | exact HB.out))) : w.heap.size ≤ gb155)); clear HB; have HB := n0_; have BK155 := n1_; have GW155 := n2_; have GE155 := n3_; clear n0_ n1_ n2_ n3_; clear hb hbox hg; have hcz92_0 : w91.cell? ⟨gb155, 0, none⟩ = some (.int .i64 0) := (blk_cell BK155.out 0).trans rfl; have hcz92_1 : w91.cell? ⟨gb155, 1, none⟩ = some (.int .i64 0) := (blk_cell BK155.out 1).trans rfl; have hcz92_2 : w91.cell? ⟨gb155, 2, none⟩ = some (.int .i64 0) := (blk_cell BK155.out 2).trans rfl; have hfz92_0 := blk_frozen BK155.out 0; have hfz92_1 := blk_frozen BK155.out 1; have hfz92_2 := blk_frozen BK155.out 2) | ((with_reducible refine gate_callee (f := 26) rfl ?_); refine goesL_ (some 20) rfl rfl Tryz.func26 (by kernel_rfl) rfl #[.agg #[.int .i64 t151, .int .i64 t152, .int .i64 t153]] rfl (by (try simp only [List.map_toArray, List.map_cons, List.map_nil]); first | done | rfl | (simp only [List.length_drop, List.length_take]; rfl)) ?_; (with_reducible refine (civil_Text.calls k t151 t152 t153 t156 t157 _ (by first | exact Laid.below HL.out (by repeat (first | (with_reducible first | exact HB.out | apply below_alloc | apply pw_below_drewN | apply below_drew1 | refine below_set ?_ (Aside0.out (by assumption))) | exact HB.out))) A3.out).mono ?_); rintro e w93 ⟨rfl, hb⟩; refine ⟨_, rfl, ?_⟩; have n0_ := Aside0.mk (blk_below (g := gb155) (o := .cells #[.int .i64 t151, .int .i64 t152, .int .i64 t153] 26 (0, 0)) (by (with_reducible repeat (first | refine blk_drewN ?_ _ | refine blk_drew ?_ | refine blk_alloc ?_ _)); refine blk_put (cs := #[.int .i64 t151, .int .i64 t152, .int .i64 0]) ?_ 2 _ rfl; (with_reducible repeat (first | refine blk_drewN ?_ _ | refine blk_drew ?_ | refine blk_alloc ?_ _)); refine blk_put (cs := #[.int .i64 t151, .int .i64 0, .int .i64 0]) ?_ 1 _ rfl; (with_reducible repeat (first | refine blk_drewN ?_ _ | refine blk_drew ?_ | refine blk_alloc ?_ _)); refine blk_put (cs := #[.int .i64 0, .int .i64 0, .int .i64 0]) ?_ 0 _ rfl; (with_reducible repeat (first | refine blk_drewN ?_ _ | refine blk_drew ?_ | refine blk_alloc ?_ _)); exact BK155.out) hb); have n1_ := Aside0.mk (below_step (by repeat (first | (with_reducible first | exact HB.out | apply below_alloc | apply pw_below_drewN | apply below_drew1 | refine below_set ?_ GE155.out) | exact HB.out)) hb); clear BK155; clear HB; have BK155 := n0_; have HB := n1_; clear n0_ n1_; (try clear hb); (try clear hb2); (try clear hk); (try clear hi); (try simp only [errW_none, errW_some])) | ((with_reducible refine gate_callee (f := 27) rfl ?_); refine goesL_ (some 24) rfl rfl Tryz.func27 (by kernel_rfl) rfl #[.string (⟨#[50, 48, 48, 49, 45, 48, 50, 45, 50, 57]⟩ : ByteArray)] rfl (by (try simp only [List.map_toArray, List.map_cons, List.map_nil]); first | done | rfl | (simp only [List.length_drop, List.length_take]; rfl)) ?_; (with_reducible refine (civil_Parse.calls (⟨#[50, 48, 48, 49, 45, 48, 50, 45, 50, 57]⟩ : ByteArray) t158 t159 t160 t161 _ (by first | exact Laid.below HL.out (by repeat (first | (with_reducible first | exact HB.out | apply below_alloc | apply pw_below_drewN | apply below_drew1 | refine below_set ?_ (Aside0.out (by assumption))) | exact HB.out))) A4.out).mono ?_); rintro e w94 ⟨rfl, hb⟩; refine ⟨_, rfl, ?_⟩; have n0_ := Aside0.mk (blk_below (g := gb155) (o := .cells #[.int .i64 t151, .int .i64 t152, .int .i64 t153] 26 (0, 0)) (by (with_reducible repeat (first | refine blk_drewN ?_ _ | refine blk_drew ?_ | refine blk_alloc ?_ _)); exact BK155.out) hb); have n1_ := Aside0.mk (below_step (by repeat (first | (with_reducible first | exact HB.out | apply below_alloc | apply pw_below_drewN | apply below_drew1 | refine below_set ?_ GE155.out) | exact HB.out)) hb); clear BK155; clear HB; have BK155 := n0_; have HB := n1_; clear n0_ n1_; (try clear hb); (try clear hb2); (try clear hk); (try clear hi); (try simp only [errW_none, errW_some])) | ((with_reducible refine gate_dst (N := 7) rfl ?_); refine box_event ?hg (N := 7) ?hd (cs := #[.int .i64 0, .int .i64 0, .int .i64 0]) (t := 26) ?hr ?_; (case hd => rfl); (case hg => rfl); (case hr => first | (go_simp; done) | (go_simp; rfl)); intro gb162 hg w95 hbox hb; have n0_ := Aside0.mk (blk_below (g := gb155) (o := .cells #[.int .i64 t151, .int .i64 t152, .int .i64 t153] 26 (0, 0)) (by (with_reducible repeat (first | refine blk_drewN ?_ _ | refine blk_drew ?_ | refine blk_alloc ?_ _)); exact BK155.out) hb); have n1_ := Aside0.mk (below_step (by repeat (first | (with_reducible first | exact HB.out | apply below_alloc | apply pw_below_drewN | apply below_drew1 | refine below_set ?_ GE155.out) | exact HB.out)) hb); have n2_ := Aside0.mk (hbox); have n3_ := Aside0.mk ((by rw [hg]; exact (below_size (by repeat (first | (with_reducible first | exact HB.out | apply below_alloc | apply pw_below_drewN | apply below_drew1 | refine below_set ?_ GE155.out) | exact HB.out))) : w.heap.size ≤ gb162)); have n4_ := Aside0.mk ((by rw [hg]; exact (below_size (by repeat (first | (with_reducible first | exact HB.out | apply below_alloc | apply pw_below_drewN | apply below_drew1 | refine below_set ?_ GE155.out) | exact HB.out))) : w.heap.size ≤ gb162)); have n5_ := Aside0.mk ((by rw [hg]; exact Nat.ne_of_lt (blk_lt (g := gb155) (o := .cells #[.int .i64 t151, .int .i64 t152, .int .i64 t153] 26 (0, 0)) (by (with_reducible repeat (first | refine blk_drewN ?_ _ | refine blk_drew ?_ | refine blk_alloc ?_ _)); exact BK155.out)) : gb155 ≠ gb162)); have n6_ := Aside0.mk ((by rw [hg]; exact Nat.ne_of_gt (blk_lt (g := gb155) (o := .cells #[.int .i64 t151, .int .i64 t152, .int .i64 t153] 26 (0, 0)) (by (with_reducible repeat (first | refine blk_drewN ?_ _ | refine blk_drew ?_ | refine blk_alloc ?_ _)); exact BK155.out)) : gb162 ≠ gb155)); clear BK155; clear HB; have BK155 := n0_; have HB := n1_; have BK162 := n2_; have GW162 := n3_; have GE162 := n4_; have NB155_162 := n5_; have NB162_155 := n6_; clear n0_ n1_ n2_ n3_ n4_ n5_ n6_; clear hb hbox hg; have hnb96 := NB162_155.out; have hnc96 := NB155_162.out; have hcz97_0 : w95.cell? ⟨gb162, 0, none⟩ = some (.int .i64 0) := (blk_cell BK162.out 0).trans rfl; have hcz97_1 : w95.cell? ⟨gb162, 1, none⟩ = some (.int .i64 0) := (blk_cell BK162.out 1).trans rfl; have hcz97_2 : w95.cell? ⟨gb162, 2, none⟩ = some (.int .i64 0) := (blk_cell BK162.out 2).trans rfl; have hfz97_0 := blk_frozen BK162.out 0; have hfz97_1 := blk_frozen BK162.out 1; have hfz97_2 := blk_frozen BK162.out 2))
    go_ret
    exact ⟨by first | rfl | (simp [errW_none, errW_some] <;> rfl) | (simp [*, errW_none, errW_some] <;> rfl), by repeat (first | (with_reducible first | exact HB.out | apply below_alloc | apply pw_below_drewN | apply below_drew1 | refine below_set ?_ GE155.out | refine below_set ?_ GE162.out) | exact HB.out)⟩

end Go.Proofs.YtfjifhkgifefeaaGreatDoor.PA
end

section
/- The closed part of the civil laws ('sure'): it is true. -/
namespace Go.Proofs.YtfjifhkgifefeaaGreatDoor.CivP
open Go.RowKit Go.Proofs.YtfjifhkgifefeaaGreatDoor.PA Go.Proofs.YtfjifhkgifefeaaGreatDoor.CivM Go.Proofs.YtfjifhkgifefeaaGreatDoor.StrM Go.Proofs.YtfjifhkgifefeaaGreatDoor.Giv Go.Proofs.YtfjifhkgifefeaaGreatDoorW.PrintWords

theorem of_zero (k : Nat) (hk : 3 ≤ k) : civil_Of.f k 0 = some (1970, 1, 1, none) := by
  obtain ⟨y, m, d, v, hn, r⟩ := of_ok k 0 hk (by omega) (by omega)
  have v2 : vld 1970 1 1 := by decide
  have n2 : num 1970 1 1 = 0 := by decide
  obtain ⟨rfl, rfl, rfl⟩ := num_inj v v2 (by rw [hn, n2])
  exact r
theorem sure (k : Nat) (hk : 3 ≤ k) : fuseelaw07_sure.f k = some true := by
  unfold fuseelaw07_sure.f
  have v1 : vld 2000 2 29 := by decide
  have n1 : num 2000 2 29 = 11016 := by decide
  have v2 : vld 1970 1 1 := by decide
  have t2 : dtext 1970 1 1 = [49, 57, 55, 48, 45, 48, 49, 45, 48, 49] := by rw [dtext_eq v2]; rfl
  have p3 : civil_Parse.f (⟨#[50, 48, 48, 49, 45, 48, 50, 45, 50, 57]⟩ : ByteArray) = some (0, 0, 0, some 3) := by
    unfold civil_Parse.f
    rw [if_pos (by decide)]
    have : dateOf (⟨#[50, 48, 48, 49, 45, 48, 50, 45, 50, 57]⟩ : ByteArray).data.toList = none := by
      show dateOf [50, 48, 48, 49, 45, 48, 50, 45, 50, 57] = none
      simp only [dateOf]
      rw [if_neg]
      rintro ⟨-, -, -, v⟩
      revert v
      decide
    rw [this]
  rw [days k _ _ _ (by omega), if_pos v1, n1, of_zero k hk]
  simp only [Option.bind_some]
  rw [text k _ _ _ (by omega), if_pos v2, p3, leap, month k _ _ (by omega)]
  have w0 : civil_Weekday.f 11016 = some 2 := by rw [weekday (by omega) (by omega)]; rfl
  rw [w0]
  have tl : (⟨(dtext 1970 1 1).toArray⟩ : ByteArray).toList = [49, 57, 55, 48, 45, 48, 49, 45, 48, 49] := by rw [ByteArray.toList_eq, t2]
  have l1 : lpI 2000 = 1 := by decide
  have d1 : dim 1900 2 = 28 := by decide
  simp only [Option.bind_some, Option.isNone_none, if_true, tl, fuseelaw07_num.f, Option.getD_some, l1, d1]
  rfl
end Go.Proofs.YtfjifhkgifefeaaGreatDoor.CivP
end

section
/- Numbers with so many digits, and stamps, in plain Lean. -/
namespace Go.Proofs.YtfjifhkgifefeaaGreatDoor.StrM
open Go Go.Proofs.YtfjifhkgifefeaaGreatDoor.CivM

/-- The last w digits of a number. -/
def digs : Nat → Int → List UInt8
  | 0, _ => []
  | w + 1, n => digs w (n / 10) ++ [dg (n % 10)]
theorem digs_len (w : Nat) : ∀ n, (digs w n).length = w := by
  induction w with
  | zero => intro n; rfl
  | succ w ih => intro n; simp [digs, ih]
theorem digs_zero (w : Nat) : digs w 0 = List.replicate w 48 := by
  induction w with
  | zero => rfl
  | succ w ih =>
    simp only [digs]
    rw [show (0 : Int) / 10 = 0 from rfl, show (0 : Int) % 10 = 0 from rfl, ih, dg0, List.replicate_succ']
theorem rep_eq (n : Nat) : Lib.repeatL [48] n = List.replicate n 48 := by
  induction n with
  | zero => rfl
  | succ n ih => simp [Lib.repeatL, ih, List.replicate_succ]
theorem dec_len (w : Nat) : ∀ u : Nat, u < 10 ^ (w + 1) → 1 ≤ (Lib.decDigits u).length ∧ (Lib.decDigits u).length ≤ w + 1 := by
  induction w with
  | zero => intro u h; rw [dd1 u (by simpa using h)]; simp
  | succ w ih =>
    intro u h
    by_cases c : u < 10
    · rw [dd1 u c]; simp
    · rw [Lib.decDigits, dif_neg c]
      have := ih (u / 10) (by rw [Nat.pow_succ] at h; omega)
      simp; omega
theorem padded_digs (w : Nat) : ∀ u : Nat, u < 10 ^ (w + 1) → List.replicate (w + 1 - (Lib.decDigits u).length) 48 ++ Lib.decDigits u = digs (w + 1) u := by
  induction w with
  | zero =>
    intro u h
    rw [dd1 u (by simpa using h)]
    have e : (u : Int) % 10 = u := by have : u < 10 := by simpa using h
                                      omega
    simp [digs, e]
  | succ w ih =>
    intro u h
    by_cases c : u < 10
    · rw [dd1 u c]
      have e1 : (u : Int) % 10 = u := by omega
      have e2 : (u : Int) / 10 = 0 := by omega
      simp only [digs]
      rw [e1, e2, show (0 : Int) / 10 = 0 from rfl, show (0 : Int) % 10 = 0 from rfl, digs_zero, dg0, ← List.replicate_succ']
      simp
    · rw [Lib.decDigits, dif_neg c]
      have h2 := ih (u / 10) (by rw [Nat.pow_succ] at h; omega)
      have l := dec_len w (u / 10) (by rw [Nat.pow_succ] at h; omega)
      rw [show digs (w + 1 + 1) (u : Int) = digs (w + 1) ((u : Int) / 10) ++ [dg ((u : Int) % 10)] from rfl]
      rw [show (u : Int) / 10 = ((u / 10 : Nat) : Int) by omega, ← h2]
      have e3 : w + 1 + 1 - (Lib.decDigits (u / 10) ++ [UInt8.ofNat (48 + u % 10)]).length = w + 1 - (Lib.decDigits (u / 10)).length := by simp
      rw [e3, List.append_assoc]
      congr 2
theorem padded_eq (w : Nat) (n : Int) (h0 : 0 ≤ n) (h1 : n < 10 ^ (w + 1)) : padded (w + 1) n = digs (w + 1) n := by
  obtain ⟨u, rfl⟩ : ∃ u : Nat, n = u := ⟨n.toNat, by omega⟩
  unfold padded Lib.itoa
  rw [if_neg (by omega), Int.toNat_natCast, rep_eq]
  exact padded_digs w u (by exact_mod_cast h1)
theorem itoa_le (w : Nat) (n : Int) (h0 : 0 ≤ n) (h1 : n < 10 ^ (w + 1)) : (Lib.itoa n).length ≤ w + 1 := by
  obtain ⟨u, rfl⟩ : ∃ u : Nat, n = u := ⟨n.toNat, by omega⟩
  unfold Lib.itoa
  rw [if_neg (by omega), Int.toNat_natCast]
  exact (dec_len w u (by exact_mod_cast h1)).2

/-- The number of a text of digits. -/
def decv (l : List UInt8) : Int := l.foldl (fun n c => 10 * n + dv c) 0
theorem decv_snoc (l : List UInt8) (c : UInt8) : decv (l ++ [c]) = 10 * decv l + dv c := by simp [decv]
theorem digs_all (w : Nat) : ∀ n, 0 ≤ n → (digs w n).all dgt = true := by
  induction w with
  | zero => intro n _; rfl
  | succ w ih =>
    intro n h
    simp only [digs, List.all_append, List.all_cons, List.all_nil, Bool.and_true, Bool.and_eq_true]
    exact ⟨ih _ (by omega), dgt_dg _ (by omega) (by omega)⟩
theorem decv_digs (w : Nat) : ∀ n : Int, 0 ≤ n → n < 10 ^ w → decv (digs w n) = n := by
  induction w with
  | zero => intro n h0 h1; simp at h1; simp [digs, decv]; omega
  | succ w ih =>
    intro n h0 h1
    simp only [digs]
    rw [decv_snoc, ih (n / 10) (by omega) (by rw [Int.pow_succ] at h1; omega), dv_dg _ (by omega) (by omega)]
    omega
theorem snoc_ind {P : List UInt8 → Prop} (h0 : P []) (h1 : ∀ l c, P l → P (l ++ [c])) (l : List UInt8) : P l := by
  rw [← List.reverse_reverse l]
  generalize l.reverse = m
  induction m with
  | nil => exact h0
  | cons c r ih => rw [List.reverse_cons]; exact h1 _ _ ih
theorem decFrom_eq (l : List UInt8) : ∀ acc : Nat, l.all dgt = true → Lib.decFrom acc l = some (l.foldl (fun n c => n * 10 + (c.toNat - 48)) acc) := by
  induction l with
  | nil => intro acc _; rfl
  | cons c l ih =>
    intro acc h
    simp only [List.all_cons, Bool.and_eq_true] at h
    simp only [Lib.decFrom, digitVal_ok c h.1, List.foldl_cons]
    exact ih _ h.2
theorem foldl_cast (l : List UInt8) : ∀ (a : Nat), l.all dgt = true → ((l.foldl (fun n c => n * 10 + (c.toNat - 48)) a : Nat) : Int) = l.foldl (fun n c => 10 * n + dv c) (a : Int) := by
  induction l with
  | nil => intro a _; rfl
  | cons c l ih =>
    intro a h
    simp only [List.all_cons, Bool.and_eq_true] at h
    simp only [List.foldl_cons]
    rw [ih _ h.2]
    have hc := (dgt_iff c).1 h.1
    congr 1; unfold dv; omega
theorem atoi_digits (l : List UInt8) (hne : l ≠ []) (hl : l.length ≤ 18) (h : l.all dgt = true) : Lib.atoiAll l = .ok (decv l) := by
  rw [Lib.atoiAll_short l hl]
  cases l with
  | nil => exact absurd rfl hne
  | cons c r =>
    have hc : dgt c = true := by simp only [List.all_cons, Bool.and_eq_true] at h; exact h.1
    have na := notmem c hc
    simp only [Lib.atoi, Lib.decNat]
    rw [if_neg (by simpa using na.1), if_neg (by simpa using na.2)]
    simp only [List.isEmpty_cons, Bool.false_eq_true, if_false]
    rw [decFrom_eq _ _ h]
    simp only [Option.map_some, Lib.NumEnd.ofOption]
    rw [foldl_cast _ _ h]; rfl
end Go.Proofs.YtfjifhkgifefeaaGreatDoor.StrM
end

section
namespace Go.Proofs.YtfjifhkgifefeaaGreatDoor.PA
open Go.Proofs.YtfjifhkgifefeaaGreatDoor.Giv Go.RowKit Go.Proofs.YtfjifhkgifefeaaGreatDoorW.PrintWords Go.Proofs.YtfjifhkgifefeaaGreatDoorW.PrintLast Go.Proofs.YtfjifhkgifefeaaGreatDoorW.PrintMore
attribute [local go_sem] max2_int min2_int max_two min_two max_three min_three max_four min_four   -- for this text's walks alone
set_option linter.unusedVariables false
set_option linter.unusedSimpArgs false

theorem eqA50 (d : Nat) (w : World) (x0 y0 : Int) (x1 y1 : Int) (x2 y2 : Int) :
    (Op.equalIn (d + 2) 50 (.agg #[.int .i64 x0, .int .i64 x1, .int .i64 x2]) (.agg #[.int .i64 y0, .int .i64 y1, .int .i64 y2])).run Tryz.prog w = .ok (x0 == y0 && (x1 == y1 && (x2 == y2))) w := by
  refine eqA_of Tryz.underlying50 (by kernel_rfl) ?_
  refine eqf_cons (by rfl) (by go_simp; rfl) (by go_simp; rfl) (by go_simp) ?_
  refine eqf_cons (by rfl) (by go_simp; rfl) (by go_simp; rfl) (by go_simp) ?_
  exact eqf_last (by rfl) (by go_simp; rfl) (by go_simp; rfl) (by go_simp)
end Go.Proofs.YtfjifhkgifefeaaGreatDoor.PA
end

section
namespace Go.Proofs.YtfjifhkgifefeaaGreatDoor.PA
open Go.Proofs.YtfjifhkgifefeaaGreatDoor.Giv Go.RowKit Go.Proofs.YtfjifhkgifefeaaGreatDoorW.PrintWords Go.Proofs.YtfjifhkgifefeaaGreatDoorW.PrintLast Go.Proofs.YtfjifhkgifefeaaGreatDoorW.PrintMore
attribute [local go_sem] max2_int min2_int max_two min_two max_three min_three max_four min_four   -- for this text's walks alone
set_option linter.unusedVariables false
set_option linter.unusedSimpArgs false

attribute [local go_sem high] eqA50
/-! ### daytime_Check: function 35 -/
def daytime_Check.f (a0_0 : Int) (a0_1 : Int) (a0_2 : Int) : Option (Option Int) := if (a0_0 == 23 && (a0_1 == 59 && (a0_2 == 60))) = true then (some none) else (if a0_0 < 0 then (some (some 1)) else (if a0_0 > 23 then (some (some 1)) else (if a0_1 < 0 then (some (some 1)) else (if a0_1 > 59 then (some (some 1)) else (if a0_2 < 0 then (some (some 1)) else (if a0_2 > 59 then (some (some 1)) else (some none)))))))
end Go.Proofs.YtfjifhkgifefeaaGreatDoor.PA
end

section
namespace Go.Proofs.YtfjifhkgifefeaaGreatDoor.PA
open Go.Proofs.YtfjifhkgifefeaaGreatDoor.Giv Go.RowKit Go.Proofs.YtfjifhkgifefeaaGreatDoorW.PrintWords Go.Proofs.YtfjifhkgifefeaaGreatDoorW.PrintLast Go.Proofs.YtfjifhkgifefeaaGreatDoorW.PrintMore
attribute [local go_sem] max2_int min2_int max_two min_two max_three min_three max_four min_four   -- for this text's walks alone
set_option linter.unusedVariables false
set_option linter.unusedSimpArgs false

/-! ### daytime_Seconds: function 32 -/
def daytime_Seconds.f (a0_0 : Int) (a0_1 : Int) (a0_2 : Int) : Option (Int × Option Int) := (daytime_Check.f a0_0 a0_1 a0_2).bind fun t247 => (if t247.isNone = true then (some (wrap64 ((wrap64 ((wrap64 (a0_0 * 3600)) + (wrap64 (a0_1 * 60)))) + a0_2), none)) else (some (0, some (t247.getD 0))))
end Go.Proofs.YtfjifhkgifefeaaGreatDoor.PA
end

section
namespace Go.Proofs.YtfjifhkgifefeaaGreatDoor.PA
open Go.Proofs.YtfjifhkgifefeaaGreatDoor.Giv Go.RowKit Go.Proofs.YtfjifhkgifefeaaGreatDoorW.PrintWords Go.Proofs.YtfjifhkgifefeaaGreatDoorW.PrintLast Go.Proofs.YtfjifhkgifefeaaGreatDoorW.PrintMore
attribute [local go_sem] max2_int min2_int max_two min_two max_three min_three max_four min_four   -- for this text's walks alone
set_option linter.unusedVariables false
set_option linter.unusedSimpArgs false

/-! ### daytime_Of: function 33 -/
def daytime_Of.j0 : Nat → Int → Bool → Option (Int × Int × Int × Option Int)
  | 0, _, _ => none
  | k + 1, x0, x4 => if x4 = true then (some (0, 0, 0, some 1)) else (if x0 = 86400 then (some (23, 59, 60, none)) else (some (wrap64 (Int.tdiv x0 3600), Int.tmod (wrap64 (Int.tdiv x0 60)) 60, Int.tmod x0 60, none)))
def daytime_Of.f (k : Nat) (a0 : Int) : Option (Int × Int × Int × Option Int) := if a0 < 0 then (daytime_Of.j0 k a0 true) else (daytime_Of.j0 k a0 (decide (a0 > 86400)))
end Go.Proofs.YtfjifhkgifefeaaGreatDoor.PA
end

section
namespace Go.Proofs.YtfjifhkgifefeaaGreatDoor.PA
open Go.Proofs.YtfjifhkgifefeaaGreatDoor.Giv Go.RowKit Go.Proofs.YtfjifhkgifefeaaGreatDoorW.PrintWords Go.Proofs.YtfjifhkgifefeaaGreatDoorW.PrintLast Go.Proofs.YtfjifhkgifefeaaGreatDoorW.PrintMore
attribute [local go_sem] max2_int min2_int max_two min_two max_three min_three max_four min_four   -- for this text's walks alone
set_option linter.unusedVariables false
set_option linter.unusedSimpArgs false

/-! ### daytime_digits: function 100 -/
def daytime_digits.f (a0 : Int) (a1 : Int) : Option (ByteArray) := (strconv_FormatInt.f a0 10).bind fun t251 => ((strings_Repeat.f (⟨#[48]⟩ : ByteArray) (mx 0 (wrap64 (a1 - (t251.size : Int))))).bind fun t252 => (if t252.size + t251.size ≤ 9223372036854775807 then (some (t252 ++ t251)) else (none)))
end Go.Proofs.YtfjifhkgifefeaaGreatDoor.PA
end

section
namespace Go.Proofs.YtfjifhkgifefeaaGreatDoor.PA
open Go.Proofs.YtfjifhkgifefeaaGreatDoor.Giv Go.RowKit Go.Proofs.YtfjifhkgifefeaaGreatDoorW.PrintWords Go.Proofs.YtfjifhkgifefeaaGreatDoorW.PrintLast Go.Proofs.YtfjifhkgifefeaaGreatDoorW.PrintMore
attribute [local go_sem] max2_int min2_int max_two min_two max_three min_three max_four min_four   -- for this text's walks alone
set_option linter.unusedVariables false
set_option linter.unusedSimpArgs false

/-! ### daytime_Stamp: function 39 -/
def daytime_Stamp.j0 : Nat → Int → Int → Bool → Int → Int → Int → Option (ByteArray × Option Int)
  | 0, _, _, _, _, _, _ => none
  | k + 1, x0, x2, x26, x258000, x258001, x258002 => if x26 = true then (some ((⟨#[]⟩ : ByteArray), some 1)) else ((civil_Of.f k x0).bind fun bt259 => (if bt259.2.2.2.isNone = true then ((civil_Text.f k bt259.1 bt259.2.1 bt259.2.2.1).bind fun bt265 => (if bt265.2.isNone = true then (if bt265.1.size + 1 ≤ 9223372036854775807 then ((daytime_digits.f x258000 2).bind fun t268 => (if (bt265.1 ++ (⟨#[84]⟩ : ByteArray)).size + t268.size ≤ 9223372036854775807 then (if ((bt265.1 ++ (⟨#[84]⟩ : ByteArray)) ++ t268).size + 1 ≤ 9223372036854775807 then ((daytime_digits.f x258001 2).bind fun t269 => (if (((bt265.1 ++ (⟨#[84]⟩ : ByteArray)) ++ t268) ++ (⟨#[58]⟩ : ByteArray)).size + t269.size ≤ 9223372036854775807 then (if ((((bt265.1 ++ (⟨#[84]⟩ : ByteArray)) ++ t268) ++ (⟨#[58]⟩ : ByteArray)) ++ t269).size + 1 ≤ 9223372036854775807 then ((daytime_digits.f x258002 2).bind fun t270 => (if (((((bt265.1 ++ (⟨#[84]⟩ : ByteArray)) ++ t268) ++ (⟨#[58]⟩ : ByteArray)) ++ t269) ++ (⟨#[58]⟩ : ByteArray)).size + t270.size ≤ 9223372036854775807 then (if ((((((bt265.1 ++ (⟨#[84]⟩ : ByteArray)) ++ t268) ++ (⟨#[58]⟩ : ByteArray)) ++ t269) ++ (⟨#[58]⟩ : ByteArray)) ++ t270).size + 1 ≤ 9223372036854775807 then ((daytime_digits.f x2 9).bind fun t271 => (if (((((((bt265.1 ++ (⟨#[84]⟩ : ByteArray)) ++ t268) ++ (⟨#[58]⟩ : ByteArray)) ++ t269) ++ (⟨#[58]⟩ : ByteArray)) ++ t270) ++ (⟨#[46]⟩ : ByteArray)).size + t271.size ≤ 9223372036854775807 then (some ((((((((bt265.1 ++ (⟨#[84]⟩ : ByteArray)) ++ t268) ++ (⟨#[58]⟩ : ByteArray)) ++ t269) ++ (⟨#[58]⟩ : ByteArray)) ++ t270) ++ (⟨#[46]⟩ : ByteArray)) ++ t271, none)) else (none))) else (none)) else (none))) else (none)) else (none))) else (none)) else (none))) else (none)) else (some ((⟨#[]⟩ : ByteArray), some (bt265.2.getD 0))))) else (some ((⟨#[]⟩ : ByteArray), some (bt259.2.2.2.getD 0)))))
def daytime_Stamp.f (k : Nat) (a0 : Int) (a1 : Int) (a2 : Int) : Option (ByteArray × Option Int) := (daytime_Of.f k a1).bind fun bt253 => (if bt253.2.2.2.isNone = true then (if a2 < 0 then (daytime_Stamp.j0 k a0 a2 true bt253.1 bt253.2.1 bt253.2.2.1) else (daytime_Stamp.j0 k a0 a2 (decide (a2 ≥ 1000000000)) bt253.1 bt253.2.1 bt253.2.2.1)) else (daytime_Stamp.j0 k a0 a2 true bt253.1 bt253.2.1 bt253.2.2.1))
def daytime_Stamp.T10 : Bool × List (List Nat × List Nat) := (true, [([], []), ([0], [0]), ([], []), ([2], [2]), ([3], [3]), ([1, 4], [1, 4]), ([5], [5]), ([], []), ([7], [7]), ([8, 4], [8]), ([6, 9], [6, 9]), ([10], [10]), ([], []), ([12], [12]), ([13, 9], [13]), ([11, 14], [11, 14]), ([15], [15]), ([], []), ([17, 14], [17]), ([16, 18], [16, 18]), ([19, 18, 0, 1, 2, 3, 4, 5, 6, 7, 8, 9, 10, 11, 12, 13, 14, 15, 16, 17, 18, 19], [19]), ([20, 0, 1, 2, 3, 4, 5, 6, 7, 8, 9, 10, 11, 12, 13, 14, 15, 16, 17, 18, 19, 20], [])])
def daytime_Stamp.B10 : List Nat := [0, 1, 0, 4, 12, 31, 63, 0, 128, 412, 1023, 2047, 0, 4096, 13212, 32767, 65535, 0, 160668, 524287, 1048575, 2097151]
end Go.Proofs.YtfjifhkgifefeaaGreatDoor.PA
end

section
/- daytime.number by its contract: the number of a text, -1 where it is none. Its text is walked; strconv.ParseInt by its contracts. -/
namespace Go.Proofs.YtfjifhkgifefeaaGreatDoor.Giv
open Go.RowKit Go.Proofs.YtfjifhkgifefeaaGreatDoor Go.Proofs.YtfjifhkgifefeaaGreatDoorW.PrintWords

theorem pint_ok (p : ByteArray) (hp : p.size ≤ 281474976710656) (v : Int) (h : Lib.atoiAll p.data.toList = .ok v) (w : World) :
    Calls Tryz.prog 113 #[.string p, .int .i64 10, .int .i64 64] w fun e w' => e = .returned (.tuple #[.int .i64 v, .nilIface]) ∧ Below w.heap.size w w' := by
  refine (Tryz.strconv_ParseInt_10_at64_ok p (by omega) v (by rw [Lib.parseIntB_64]; exact h) w).mono ?_
  rintro e w' ⟨rfl, rfl | ⟨t, rfl⟩⟩
  · exact ⟨rfl, Below.refl _ _⟩
  · exact ⟨rfl, Lib.bytesWorld_below _ _ _⟩
theorem pint_bad (p : ByteArray) (hp : p.size ≤ 281474976710656) (h : ∀ v, Lib.atoiAll p.data.toList ≠ .ok v) (w : World) (hl : Laid w) :
    Calls Tryz.prog 113 #[.string p, .int .i64 10, .int .i64 64] w fun e w' => ∃ u N, e = .returned (.tuple #[.int .i64 u, .iface 276 (.pointer (some ⟨N, 0, none⟩))]) ∧ Below w.heap.size w w' := by
  rcases hc : Lib.atoiAll p.data.toList with v | _ | _
  · exact absurd hc (h v)
  · obtain ⟨tp, q, e⟩ := hl.syn
    refine (Any.strconv_ParseInt_10_at64_syntax Tryz.laysC174 p hp (by rw [Lib.parseIntB_64]; exact hc) _ w e (.inr ⟨_, _, rfl⟩)).mono ?_
    rintro e w' ⟨N, rfl, -, -, hb⟩
    exact ⟨_, N, rfl, hb⟩
  · obtain ⟨tp, q, e⟩ := hl.rng
    refine (Tryz.strconv_ParseInt_10_at64_range p hp (by rw [Lib.parseIntB_64]; exact hc) _ w e (.inr ⟨_, _, rfl⟩)).mono ?_
    rintro e w' ⟨N, rfl, -, -, hb⟩
    exact ⟨_, N, rfl, hb⟩
def numberOf (l : List UInt8) : Int := match Lib.atoiAll l with | .ok v => v | _ => -1
def daytime_number.f (a0 : ByteArray) : Option Int := if a0.size ≤ 281474976710656 then some (numberOf a0.data.toList) else none
set_option maxHeartbeats 1000000 in
theorem daytime_number.calls (a0 : ByteArray) (r : Int) (w : World) (hl_ : Laid w) (h : daytime_number.f a0 = some r) :
    Calls Tryz.prog 101 #[.string a0] w fun e w' => e = .returned (.int .i64 r) ∧ Below w.heap.size w w' := by
  unfold daytime_number.f at h
  split at h
  rotate_left
  · cases h
  rename_i hs
  have hr := Option.some.inj h
  clear h
  unfold numberOf at hr
  by_cases c : ∃ v, Lib.atoiAll a0.data.toList = .ok v
  · obtain ⟨v, hv⟩ := c
    rw [hv] at hr
    have hr2 : v = r := hr
    subst hr2
    have H := Lib.hid hv
    clear hv hr
    go_enter Tryz.func101, Tryz.ntmps101
    go_wp2_with (go_at_call 113; (refine (pint_ok a0 hs v H.out _).mono ?_); rintro e w1 ⟨rfl, hb⟩)
    go_ret
    exact ⟨rfl, hb⟩
  · have hr2 : -1 = r := by
      revert hr
      rcases hc : Lib.atoiAll a0.data.toList with v | _ | _
      · exact absurd ⟨v, hc⟩ c
      · exact fun e => e
      · exact fun e => e
    subst hr2
    have H : Hid (∀ v, Lib.atoiAll a0.data.toList ≠ .ok v) := Lib.hid (fun v e => c ⟨v, e⟩)
    have HL := Aside0.mk hl_
    clear hr hl_ c
    go_enter Tryz.func101, Tryz.ntmps101
    go_wp2_with (go_at_call 113; (refine (pint_bad a0 hs H.out _ HL.out).mono ?_); rintro e w1 ⟨u, N, rfl, hb⟩)
    go_ret
    exact ⟨rfl, hb⟩
end Go.Proofs.YtfjifhkgifefeaaGreatDoor.Giv
end

section
namespace Go.Proofs.YtfjifhkgifefeaaGreatDoor.PA
open Go.Proofs.YtfjifhkgifefeaaGreatDoor.Giv Go.RowKit Go.Proofs.YtfjifhkgifefeaaGreatDoorW.PrintWords Go.Proofs.YtfjifhkgifefeaaGreatDoorW.PrintLast Go.Proofs.YtfjifhkgifefeaaGreatDoorW.PrintMore
attribute [local go_sem] max2_int min2_int max_two min_two max_three min_three max_four min_four   -- for this text's walks alone
set_option linter.unusedVariables false
set_option linter.unusedSimpArgs false

/-! ### daytime_Parse: function 41 -/
def daytime_Parse.f (k : Nat) (a0 : ByteArray) : Option (Int × Int × Int × Option Int) := if (a0.size : Int) = 29 then (if 0 ≤ 10 then (if 10 ≤ (a0.size : Int) then ((civil_Parse.f (a0.extract 0 10)).bind fun bt272 => (if bt272.2.2.2.isNone = true then ((civil_Days.f k bt272.1 bt272.2.1 bt272.2.2.1).bind fun bt278 => (if bt278.2.isNone = true then (if 11 ≤ 13 then (if 13 ≤ (a0.size : Int) then ((daytime_number.f (a0.extract 11 13)).bind fun t281 => (if 14 ≤ 16 then (if 16 ≤ (a0.size : Int) then ((daytime_number.f (a0.extract 14 16)).bind fun t282 => (if 17 ≤ 19 then (if 19 ≤ (a0.size : Int) then ((daytime_number.f (a0.extract 17 19)).bind fun t283 => ((daytime_Seconds.f t281 t282 t283).bind fun bt284 => (if bt284.2.isNone = true then (if 20 ≤ (a0.size : Int) then ((daytime_number.f (a0.extract 20 a0.size)).bind fun t287 => ((daytime_Stamp.f k bt278.1 bt284.1 t287).bind fun bt288 => (if bt288.2.isNone = true then (if bt288.1.toList = a0.toList then (some (bt278.1, bt284.1, t287, none)) else (some (0, 0, 0, some 3))) else (some (0, 0, 0, some 3))))) else (none)) else (some (0, 0, 0, some 3))))) else (none)) else (none))) else (none)) else (none))) else (none)) else (none)) else (some (0, 0, 0, some 3)))) else (some (0, 0, 0, some (bt272.2.2.2.getD 0))))) else (none)) else (none)) else (some (0, 0, 0, some 3))
def daytime_Parse.T9 : Bool × List (List Nat × List Nat) := (true, [([], []), ([0], [0]), ([1], [1]), ([], []), ([3], [3]), ([4, 2], [4]), ([], []), ([6], [6]), ([7, 5], [7]), ([2, 5, 8], [2, 5, 8]), ([9, 8], [9]), ([10], [10]), ([11], [11]), ([11], [11]), ([12, 10, 0, 1, 2, 3, 4, 5, 6, 7, 8, 9, 10, 11, 12], [12]), ([13, 14, 0, 1, 2, 3, 4, 5, 6, 7, 8, 9, 10, 11, 12, 13, 14], [13])])
def daytime_Parse.B9 : List Nat := [0, 1, 3, 0, 8, 31, 0, 64, 255, 511, 1023, 2047, 4095, 4095, 8191, 32767]
end Go.Proofs.YtfjifhkgifefeaaGreatDoor.PA
end

section
namespace Go.Proofs.YtfjifhkgifefeaaGreatDoor.PA
open Go.Proofs.YtfjifhkgifefeaaGreatDoor.Giv Go.RowKit Go.Proofs.YtfjifhkgifefeaaGreatDoorW.PrintWords Go.Proofs.YtfjifhkgifefeaaGreatDoorW.PrintLast Go.Proofs.YtfjifhkgifefeaaGreatDoorW.PrintMore
attribute [local go_sem] max2_int min2_int max_two min_two max_three min_three max_four min_four   -- for this text's walks alone
set_option linter.unusedVariables false
set_option linter.unusedSimpArgs false

/-! ### fuseeref08_Seconds: function 34 -/
def fuseeref08_Seconds.j0 : Nat → Bool → Int → Int → Int → Option (Int)
  | 0, _, _, _, _ => none
  | k + 1, x15, x251000, x251001, x251002 => if x15 = true then (some 86400) else (if x251000 < 0 then (some (-1)) else (if x251000 > 23 then (some (-1)) else (if x251001 < 0 then (some (-1)) else (if x251001 > 59 then (some (-1)) else (if x251002 < 0 then (some (-1)) else (if x251002 > 59 then (some (-1)) else (some (wrap64 ((wrap64 ((wrap64 ((wrap64 (x251000 * 60)) + x251001)) * 60)) + x251002)))))))))
def fuseeref08_Seconds.f (k : Nat) (a0_0 : Int) (a0_1 : Int) (a0_2 : Int) : Option (Int) := if a0_0 = 23 then (if a0_1 = 59 then (fuseeref08_Seconds.j0 k (a0_2 == 60) a0_0 a0_1 a0_2) else (fuseeref08_Seconds.j0 k false a0_0 a0_1 a0_2)) else (fuseeref08_Seconds.j0 k false a0_0 a0_1 a0_2)
end Go.Proofs.YtfjifhkgifefeaaGreatDoor.PA
end

section
namespace Go.Proofs.YtfjifhkgifefeaaGreatDoor.PA
open Go.Proofs.YtfjifhkgifefeaaGreatDoor.Giv Go.RowKit Go.Proofs.YtfjifhkgifefeaaGreatDoorW.PrintWords Go.Proofs.YtfjifhkgifefeaaGreatDoorW.PrintLast Go.Proofs.YtfjifhkgifefeaaGreatDoorW.PrintMore
attribute [local go_sem] max2_int min2_int max_two min_two max_three min_three max_four min_four   -- for this text's walks alone
set_option linter.unusedVariables false
set_option linter.unusedSimpArgs false

/-! ### fuseeref08_Of: function 38 -/
def fuseeref08_Of.f (a0 : Int) : Option (Int × Int × Int) := if a0 = 86400 then (some (23, 59, 60)) else (some (wrap64 (Int.tdiv (wrap64 (Int.tdiv a0 60)) 60), Int.tmod (wrap64 (Int.tdiv a0 60)) 60, Int.tmod a0 60))
end Go.Proofs.YtfjifhkgifefeaaGreatDoor.PA
end

section
/- What the printed functions of daytime and of the document's chapter 8 answer: times, seconds, stamps. -/
namespace Go.Proofs.YtfjifhkgifefeaaGreatDoor.CivP
open Go.RowKit Go.Proofs.YtfjifhkgifefeaaGreatDoor.PA Go.Proofs.YtfjifhkgifefeaaGreatDoor.CivM Go.Proofs.YtfjifhkgifefeaaGreatDoor.StrM Go.Proofs.YtfjifhkgifefeaaGreatDoor.Giv Go.Proofs.YtfjifhkgifefeaaGreatDoorW.PrintWords

def tvld (h m s : Int) : Prop := (h = 23 ∧ m = 59 ∧ s = 60) ∨ (0 ≤ h ∧ h ≤ 23 ∧ 0 ≤ m ∧ m ≤ 59 ∧ 0 ≤ s ∧ s ≤ 59)
instance (h m s : Int) : Decidable (tvld h m s) := by unfold tvld; infer_instance
def tsec (h m s : Int) : Int := h * 3600 + m * 60 + s
def tod (n : Int) : Int × Int × Int := if n = 86400 then (23, 59, 60) else (n / 3600, n / 60 % 60, n % 60)
theorem tcheck (h m s : Int) : daytime_Check.f h m s = some (if tvld h m s then none else some 1) := by
  unfold daytime_Check.f
  by_cases v : tvld h m s
  · rw [if_pos v]
    unfold tvld at v
    by_cases c : (h == 23 && (m == 59 && (s == 60))) = true
    · rw [if_pos c]
    · rw [if_neg c]
      have c' : ¬ (h = 23 ∧ m = 59 ∧ s = 60) := by simpa [and_assoc] using c
      rw [if_neg (by omega), if_neg (by omega), if_neg (by omega), if_neg (by omega), if_neg (by omega), if_neg (by omega)]
  · rw [if_neg v]
    unfold tvld at v
    have c : ¬ (h == 23 && (m == 59 && (s == 60))) = true := by
      intro c
      exact v (.inl (by simpa [and_assoc] using c))
    rw [if_neg c]
    repeat (split; · rfl)
    omega
theorem tsec_tod (n : Int) (h0 : 0 ≤ n) (h1 : n ≤ 86400) : tsec (tod n).1 (tod n).2.1 (tod n).2.2 = n := by
  unfold tod tsec
  by_cases c : n = 86400
  · rw [if_pos c, c]; rfl
  · rw [if_neg c]; simp only; omega
theorem tod_vld (n : Int) (h0 : 0 ≤ n) (h1 : n ≤ 86400) : tvld (tod n).1 (tod n).2.1 (tod n).2.2 := by
  unfold tod tvld
  by_cases c : n = 86400
  · rw [if_pos c]; simp
  · rw [if_neg c]; simp only; omega
theorem tseconds (h m s : Int) : daytime_Seconds.f h m s = some (if tvld h m s then (tsec h m s, none) else (0, some 1)) := by
  unfold daytime_Seconds.f
  rw [tcheck]
  simp only [Option.bind_some]
  by_cases v : tvld h m s
  · rw [if_pos v, if_pos v]
    unfold tvld at v
    simp only [Option.isNone_none, if_true]
    rw [wid (x := h * 3600) (by omega) (by omega), wid (x := m * 60) (by omega) (by omega), wid (x := h * 3600 + m * 60) (by omega) (by omega), wid (x := h * 3600 + m * 60 + s) (by omega) (by omega)]
    rfl
  · rw [if_neg v, if_neg v]; simp
theorem tof (k : Nat) (n : Int) (hk : 1 ≤ k) : daytime_Of.f k n = some (if n < 0 ∨ 86400 < n then (0, 0, 0, some 1) else ((tod n).1, (tod n).2.1, (tod n).2.2, none)) := by
  obtain ⟨k, rfl⟩ : ∃ j, k = j + 1 := ⟨k - 1, by omega⟩
  unfold daytime_Of.f
  clear hk
  by_cases a : n < 0
  · rw [if_pos a, if_pos (.inl a)]; rfl
  rw [if_neg a]
  simp only [daytime_Of.j0, decide_eq_true_eq]
  by_cases b : n > 86400
  · rw [if_pos b, if_pos (.inr b)]
  rw [if_neg b]
  have nb : ¬ (n < 0 ∨ 86400 < n) := by omega
  rw [if_neg nb]
  unfold tod
  by_cases c : n = 86400
  · simp only [if_pos c]
  · simp only [if_neg c]
    simp (disch := omega) only [wid, tdv, tmd]
theorem rtof (n : Int) (h0 : 0 ≤ n) (h1 : n ≤ 86400) : fuseeref08_Of.f n = some (tod n) := by
  unfold fuseeref08_Of.f tod
  by_cases c : n = 86400
  · rw [if_pos c, if_pos c]
  · rw [if_neg c, if_neg c]
    simp (disch := omega) only [wid, tdv, tmd]
    have e : n / 60 / 60 = n / 3600 := by omega
    rw [e]
/-- A number with so many digits, as daytime tells it. -/
theorem tdigits (n : Int) (w : Nat) (h0 : 0 ≤ n) (h1 : n < 10 ^ (w + 1)) (hw : w + 1 ≤ 18) : daytime_digits.f n ((w + 1 : Nat) : Int) = some ⟨(digs (w + 1) n).toArray⟩ := by
  have hl := itoa_le w n h0 h1
  have hb : (10 : Int) ^ (w + 1) ≤ 1000000000000000000 := by
    have := Nat.pow_le_pow_right (n := 10) (by omega) hw
    have e : ((10 ^ (w + 1) : Nat) : Int) = (10 : Int) ^ (w + 1) := by simp
    have e2 : (10 : Nat) ^ 18 = 1000000000000000000 := by decide
    omega
  unfold daytime_digits.f strconv_FormatInt.f
  rw [if_pos ⟨rfl, by omega, by omega⟩]
  simp only [Option.bind_some, ba_size]
  rw [wid (by omega) (by omega)]
  have em : mx 0 (((w + 1 : Nat) : Int) - ((Lib.itoa n).length : Int)) = ((w + 1 : Nat) : Int) - ((Lib.itoa n).length : Int) := by unfold mx; omega
  rw [em]
  unfold strings_Repeat.f
  have e1 : (((w + 1 : Nat) : Int) - ((Lib.itoa n).length : Int)).toNat = w + 1 - (Lib.itoa n).length := by omega
  rw [e1]
  have e2 : (⟨#[48]⟩ : ByteArray).size = 1 := rfl
  rw [e2, if_pos ⟨by omega, by omega, by omega⟩]
  simp only [Option.bind_some]
  rw [ba_size, ba_app]
  have e4 : (Lib.repeatL [48] (w + 1 - (Lib.itoa n).length)).length = 1 * (w + 1 - (Lib.itoa n).length) := by simp [Lib.repeatL_length]
  have hp := padded_eq w n h0 h1
  unfold padded at hp
  rw [e4, if_pos (by omega)]
  have e5 : (⟨#[48]⟩ : ByteArray).data.toList = [48] := rfl
  first | rw [hp] | (rw [e5, hp])
end Go.Proofs.YtfjifhkgifefeaaGreatDoor.CivP
end

section
namespace Go.Proofs.YtfjifhkgifefeaaGreatDoor.PA
open Go.Proofs.YtfjifhkgifefeaaGreatDoor.Giv Go.RowKit Go.Proofs.YtfjifhkgifefeaaGreatDoorW.PrintWords Go.Proofs.YtfjifhkgifefeaaGreatDoorW.PrintLast Go.Proofs.YtfjifhkgifefeaaGreatDoorW.PrintMore
attribute [local go_sem] max2_int min2_int max_two min_two max_three min_three max_four min_four   -- for this text's walks alone
set_option linter.unusedVariables false
set_option linter.unusedSimpArgs false

/-! ### fuseeref07_Of: function 25 -/
mutual
def fuseeref07_Of.j0 : Nat → Int → Bool → Option (Int × Int × Int × Int)
  | 0, _, _ => none
  | k + 1, x0, x12 => if x12 = true then (some (0, 0, 0, 2)) else (fuseeref07_Of.l0 k (wrap64 (x0 + 719162)) 1 1 1)
def fuseeref07_Of.j2 : Nat → Int → Int → Int → Int → Option (Int × Int × Int × Int)
  | 0, _, _, _, _ => none
  | k + 1, x4, x176000, x176001, x176002 => fuseeref07_Of.l1 k x4 x176000 x176001 x176002
def fuseeref07_Of.l1 : Nat → Int → Int → Int → Int → Option (Int × Int × Int × Int)
  | 0, _, _, _, _ => none
  | k + 1, x4, x176000, x176001, x176002 => (fuseeref07_Month.f k x176000 x176001).bind fun t177 => (if x4 ≥ t177 then ((fuseeref07_Month.f k x176000 x176001).bind fun t178 => (fuseeref07_Of.l1 k (wrap64 (x4 - t178)) x176000 (wrap64 (x176001 + 1)) x176002)) else (some (x176000, x176001, wrap64 (1 + x4), 0)))
def fuseeref07_Of.l0 : Nat → Int → Int → Int → Int → Option (Int × Int × Int × Int)
  | 0, _, _, _, _ => none
  | k + 1, x4, x176000, x176001, x176002 => (fuseeref07_Leap.f x176000).bind fun t176 => (if t176 = true then (if x4 < 366 then (fuseeref07_Of.j2 k x4 x176000 x176001 x176002) else (fuseeref07_Of.l0 k (wrap64 (x4 - 366)) (wrap64 (x176000 + 1)) x176001 x176002)) else (if x4 < 365 then (fuseeref07_Of.j2 k x4 x176000 x176001 x176002) else (fuseeref07_Of.l0 k (wrap64 (x4 - 365)) (wrap64 (x176000 + 1)) x176001 x176002)))
end
def fuseeref07_Of.f (k : Nat) (a0 : Int) : Option (Int × Int × Int × Int) := if a0 < (-719162) then (fuseeref07_Of.j0 k a0 true) else (fuseeref07_Of.j0 k a0 (decide (a0 > 2932896)))
end Go.Proofs.YtfjifhkgifefeaaGreatDoor.PA
end

section
/- The document's date of a day, year by year and month by month: it is the one date of that day. -/
namespace Go.Proofs.YtfjifhkgifefeaaGreatDoor.CivP
open Go.RowKit Go.Proofs.YtfjifhkgifefeaaGreatDoor.PA Go.Proofs.YtfjifhkgifefeaaGreatDoor.CivM Go.Proofs.YtfjifhkgifefeaaGreatDoorW.PrintWords

theorem rof_l1 (k : Nat) : ∀ (x4 y m d : Int), 1 ≤ y → y ≤ 9999 → 1 ≤ m → m ≤ 12 → 0 ≤ x4 → x4 + cum y m < 365 + lpI y → (13 - m).toNat + 1 < k →
    ∃ m' d', vld y m' d' ∧ num y m' d' = dby y + cum y m + x4 - 719162 ∧ fuseeref07_Of.l1 k x4 y m d = some (y, m', d', 0) := by
  induction k with
  | zero => intro x4 y m d _ _ _ _ _ _ h; omega
  | succ k ih =>
    intro x4 y m d h1 h2 h3 h4 h5 h6 h7
    have hd := dim_bd y m
    have e := cum_succ y m h3 h4
    have L := lpI_01 y
    have c0 := cum_le y m 1 h3 h4 (by omega) (by have := dim_pos y m h3 h4; omega)
    simp only [fuseeref07_Of.l1]
    rw [rmonth k y m (by omega)]
    simp only [Option.bind_some]
    by_cases h : x4 ≥ dim y m
    · rw [if_pos h, wid (by omega) (by omega), wid (by omega) (by omega)]
      have hm : m + 1 ≤ 12 := by
        rcases Int.lt_or_le 12 (m + 1) with c | c
        · have : m = 12 := by omega
          subst this
          rw [show (12 : Int) + 1 = 13 from rfl, cum_13] at e; omega
        · exact c
      obtain ⟨m', d', v, hn, r⟩ := ih (x4 - dim y m) y (m + 1) d h1 h2 (by omega) hm (by omega) (by omega) (by omega)
      exact ⟨m', d', v, by rw [hn, e]; omega, r⟩
    · rw [if_neg h, wid (by omega) (by omega)]
      exact ⟨m, 1 + x4, ⟨h1, h2, h3, h4, by omega, by omega⟩, by unfold num; omega, rfl⟩
theorem rof_l0 (k : Nat) : ∀ (x4 y : Int), 1 ≤ y → y ≤ 9999 → 0 ≤ x4 → dby y + x4 ≤ 3652058 → (10000 - y).toNat + 20 ≤ k →
    ∃ y' m' d', vld y' m' d' ∧ num y' m' d' = dby y + x4 - 719162 ∧ fuseeref07_Of.l0 k x4 y 1 1 = some (y', m', d', 0) := by
  induction k with
  | zero => intro x4 y _ _ _ _ h; omega
  | succ k ih =>
    intro x4 y h1 h2 h3 h4 h5
    have L := lpI_01 y
    have e := dby_succ y
    have hb : 0 ≤ dby y := by
      have := dby_mono 1 y h1
      have e4 : dby 1 = 0 := by decide
      omega
    have nxt : x4 ≥ 365 + lpI y → y + 1 ≤ 9999 := by
      intro c
      rcases Int.lt_or_le 9999 (y + 1) with q | q
      · have := dby_mono 10000 (y + 1) (by omega)
        have e3 : dby 10000 = 3652059 := by decide
        omega
      · exact q
    have stop : x4 < 365 + lpI y → ∃ y' m' d', vld y' m' d' ∧ num y' m' d' = dby y + x4 - 719162 ∧ fuseeref07_Of.j2 k x4 y 1 1 = some (y', m', d', 0) := by
      intro c
      obtain ⟨k, rfl⟩ : ∃ j, k = j + 1 := ⟨k - 1, by omega⟩
      obtain ⟨m', d', v, hn, r⟩ := rof_l1 k x4 y 1 1 h1 h2 (by omega) (by omega) h3 (by rw [cum_one]; omega) (by omega)
      rw [cum_one] at hn
      exact ⟨y, m', d', v, by omega, r⟩
    simp only [fuseeref07_Of.l0]
    rw [rleap]
    simp only [Option.bind_some]
    by_cases hl : lpI y = 1
    · rw [decide_eq_true hl]; simp only [if_true]
      by_cases h : x4 < 366
      · rw [if_pos h]; exact stop (by omega)
      · rw [if_neg h, wid (by omega) (by omega), wid (by omega) (by omega)]
        have := nxt (by omega)
        obtain ⟨y', m', d', v, hn, r⟩ := ih (x4 - 366) (y + 1) (by omega) (by omega) (by omega) (by omega) (by omega)
        exact ⟨y', m', d', v, by rw [hn]; omega, r⟩
    · rw [decide_eq_false hl]; simp only [Bool.false_eq_true, if_false]
      by_cases h : x4 < 365
      · rw [if_pos h]; exact stop (by omega)
      · rw [if_neg h, wid (by omega) (by omega), wid (by omega) (by omega)]
        have := nxt (by omega)
        obtain ⟨y', m', d', v, hn, r⟩ := ih (x4 - 365) (y + 1) (by omega) (by omega) (by omega) (by omega) (by omega)
        exact ⟨y', m', d', v, by rw [hn]; omega, r⟩
theorem rof_ok (k : Nat) (n : Int) (hk : 20001 ≤ k) (h0 : -719162 ≤ n) (h1 : n ≤ 2932896) : ∃ y m d, vld y m d ∧ num y m d = n ∧ fuseeref07_Of.f k n = some (y, m, d, 0) := by
  obtain ⟨k, rfl⟩ : ∃ j, k = j + 1 := ⟨k - 1, by omega⟩
  unfold fuseeref07_Of.f
  rw [if_neg (by omega), decide_eq_false (by omega)]
  simp only [fuseeref07_Of.j0, Bool.false_eq_true, if_false]
  rw [wid (by omega) (by omega)]
  have e4 : dby 1 = 0 := by decide
  obtain ⟨y, m, d, v, hn, r⟩ := rof_l0 k (n + 719162) 1 (by omega) (by omega) (by omega) (by omega) (by omega)
  exact ⟨y, m, d, v, by rw [hn]; omega, r⟩
end Go.Proofs.YtfjifhkgifefeaaGreatDoor.CivP
end

section
namespace Go.Proofs.YtfjifhkgifefeaaGreatDoor.PA
open Go.Proofs.YtfjifhkgifefeaaGreatDoor.Giv Go.RowKit Go.Proofs.YtfjifhkgifefeaaGreatDoorW.PrintWords Go.Proofs.YtfjifhkgifefeaaGreatDoorW.PrintLast Go.Proofs.YtfjifhkgifefeaaGreatDoorW.PrintMore
attribute [local go_sem] max2_int min2_int max_two min_two max_three min_three max_four min_four   -- for this text's walks alone
set_option linter.unusedVariables false
set_option linter.unusedSimpArgs false

/-! ### fuseeref07_Two: function 99 -/
def fuseeref07_Two.l0 : Nat → Int → Int → ByteArray → Int → Option (ByteArray)
  | 0, _, _, _, _ => none
  | k + 1, x0, x1, x5, x6 => if x6 < x1 then (if 0 ≤ (Int.tmod x0 10) then (if (Int.tmod x0 10) ≤ (wrap64 ((Int.tmod x0 10) + 1)) then (if (wrap64 ((Int.tmod x0 10) + 1)) ≤ 10 then (if ((⟨#[48, 49, 50, 51, 52, 53, 54, 55, 56, 57]⟩ : ByteArray).extract ((Int.tmod x0 10) : Int).toNat ((wrap64 ((Int.tmod x0 10) + 1)) : Int).toNat).size + x5.size ≤ 9223372036854775807 then (fuseeref07_Two.l0 k (wrap64 (Int.tdiv x0 10)) x1 (((⟨#[48, 49, 50, 51, 52, 53, 54, 55, 56, 57]⟩ : ByteArray).extract ((Int.tmod x0 10) : Int).toNat ((wrap64 ((Int.tmod x0 10) + 1)) : Int).toNat) ++ x5) (wrap64 (x6 + 1))) else (none)) else (none)) else (none)) else (none)) else (some x5)
def fuseeref07_Two.f (k : Nat) (a0 : Int) (a1 : Int) : Option (ByteArray) := fuseeref07_Two.l0 k a0 a1 (⟨#[]⟩ : ByteArray) 0
end Go.Proofs.YtfjifhkgifefeaaGreatDoor.PA
end

section
namespace Go.Proofs.YtfjifhkgifefeaaGreatDoor.PA
open Go.Proofs.YtfjifhkgifefeaaGreatDoor.Giv Go.RowKit Go.Proofs.YtfjifhkgifefeaaGreatDoorW.PrintWords Go.Proofs.YtfjifhkgifefeaaGreatDoorW.PrintLast Go.Proofs.YtfjifhkgifefeaaGreatDoorW.PrintMore
attribute [local go_sem] max2_int min2_int max_two min_two max_three min_three max_four min_four   -- for this text's walks alone
set_option linter.unusedVariables false
set_option linter.unusedSimpArgs false

/-! ### fuseeref07_Text: function 29 -/
def fuseeref07_Text.f (k : Nat) (a0_0 : Int) (a0_1 : Int) (a0_2 : Int) : Option (ByteArray) := (fuseeref07_Two.f k a0_0 4).bind fun t220 => (if t220.size + 1 ≤ 9223372036854775807 then ((fuseeref07_Two.f k a0_1 2).bind fun t221 => (if (t220 ++ (⟨#[45]⟩ : ByteArray)).size + t221.size ≤ 9223372036854775807 then (if ((t220 ++ (⟨#[45]⟩ : ByteArray)) ++ t221).size + 1 ≤ 9223372036854775807 then ((fuseeref07_Two.f k a0_2 2).bind fun t222 => (if (((t220 ++ (⟨#[45]⟩ : ByteArray)) ++ t221) ++ (⟨#[45]⟩ : ByteArray)).size + t222.size ≤ 9223372036854775807 then (some ((((t220 ++ (⟨#[45]⟩ : ByteArray)) ++ t221) ++ (⟨#[45]⟩ : ByteArray)) ++ t222)) else (none))) else (none)) else (none))) else (none))
end Go.Proofs.YtfjifhkgifefeaaGreatDoor.PA
end

section
namespace Go.Proofs.YtfjifhkgifefeaaGreatDoor.PA
open Go.Proofs.YtfjifhkgifefeaaGreatDoor.Giv Go.RowKit Go.Proofs.YtfjifhkgifefeaaGreatDoorW.PrintWords Go.Proofs.YtfjifhkgifefeaaGreatDoorW.PrintLast Go.Proofs.YtfjifhkgifefeaaGreatDoorW.PrintMore
attribute [local go_sem] max2_int min2_int max_two min_two max_three min_three max_four min_four   -- for this text's walks alone
set_option linter.unusedVariables false
set_option linter.unusedSimpArgs false

/-! ### fuseeref07_Digits: function 98 -/
def fuseeref07_Digits.l0 : Nat → ByteArray → Int → Int → Option (Int)
  | 0, _, _, _ => none
  | k + 1, x0, x3, x4 => if x4 < (x0.size : Int) then (if 0 ≤ x4 then (if (bt x0 x4) < 48 then (some (-1)) else (if (bt x0 x4) > 57 then (some (-1)) else (if x3 > 100000000 then (some (-1)) else (fuseeref07_Digits.l0 k x0 (wrap64 ((wrap64 (10 * x3)) + (((bt x0 x4) - 48) % 256))) (wrap64 (x4 + 1)))))) else (none)) else (some x3)
def fuseeref07_Digits.f (k : Nat) (a0 : ByteArray) : Option (Int) := fuseeref07_Digits.l0 k a0 0 0
end Go.Proofs.YtfjifhkgifefeaaGreatDoor.PA
end

section
namespace Go.Proofs.YtfjifhkgifefeaaGreatDoor.PA
open Go.Proofs.YtfjifhkgifefeaaGreatDoor.Giv Go.RowKit Go.Proofs.YtfjifhkgifefeaaGreatDoorW.PrintWords Go.Proofs.YtfjifhkgifefeaaGreatDoorW.PrintLast Go.Proofs.YtfjifhkgifefeaaGreatDoorW.PrintMore
attribute [local go_sem] max2_int min2_int max_two min_two max_three min_three max_four min_four   -- for this text's walks alone
set_option linter.unusedVariables false
set_option linter.unusedSimpArgs false

/-! ### fuseeref07_Parse: function 28 -/
def fuseeref07_Parse.j0 : Nat → ByteArray → Bool → Option (Int × Int × Int × Int)
  | 0, _, _ => none
  | k + 1, x0, x17 => if x17 = true then (some (0, 0, 0, 3)) else (if 0 ≤ 4 then (if 4 ≤ (x0.size : Int) then ((fuseeref07_Digits.f k (x0.extract 0 4)).bind fun t214 => (if 5 ≤ 7 then (if 7 ≤ (x0.size : Int) then ((fuseeref07_Digits.f k (x0.extract 5 7)).bind fun t215 => (if 8 ≤ (x0.size : Int) then ((fuseeref07_Digits.f k (x0.extract 8 x0.size)).bind fun t216 => ((fuseeref07_May.f k t214 t215 t216).bind fun t218 => (if t218 = true then (some (t214, t215, t216, 0)) else (some (0, 0, 0, 3))))) else (none))) else (none)) else (none))) else (none)) else (none))
def fuseeref07_Parse.f (k : Nat) (a0 : ByteArray) : Option (Int × Int × Int × Int) := if (a0.size : Int) = 10 then (if 4 < (a0.size : Int) then (if (bt a0 4) = 45 then (if 7 < (a0.size : Int) then (fuseeref07_Parse.j0 k a0 ((bt a0 7) != 45)) else (none)) else (fuseeref07_Parse.j0 k a0 true)) else (none)) else (fuseeref07_Parse.j0 k a0 true)
def fuseeref07_Parse.T3 : Bool × List (List Nat × List Nat) := (true, [([], []), ([0], [0]), ([1], [1]), ([], []), ([3], [3]), ([4, 2], [4]), ([], []), ([6], [6]), ([7, 5], [7]), ([2, 5, 8], [2, 5, 8]), ([], []), ([10, 9, 8, 0, 1, 2, 3, 4, 5, 6, 7, 8, 9, 10], [9, 10])])
def fuseeref07_Parse.B3 : List Nat := [0, 1, 3, 0, 8, 31, 0, 64, 255, 511, 0, 2047]
end Go.Proofs.YtfjifhkgifefeaaGreatDoor.PA
end

section
/- The document's texts of dates: Two, Text, Digits, Parse, in plain words. -/
namespace Go.Proofs.YtfjifhkgifefeaaGreatDoor.CivP
open Go.RowKit Go.Proofs.YtfjifhkgifefeaaGreatDoor.PA Go.Proofs.YtfjifhkgifefeaaGreatDoor.CivM Go.Proofs.YtfjifhkgifefeaaGreatDoor.StrM Go.Proofs.YtfjifhkgifefeaaGreatDoorW.PrintWords

theorem digit_at (d : Int) (h0 : 0 ≤ d) (h1 : d ≤ 9) : (⟨#[48, 49, 50, 51, 52, 53, 54, 55, 56, 57]⟩ : ByteArray).extract d.toNat (d + 1).toNat = ⟨[dg d].toArray⟩ := by
  have : d = 0 ∨ d = 1 ∨ d = 2 ∨ d = 3 ∨ d = 4 ∨ d = 5 ∨ d = 6 ∨ d = 7 ∨ d = 8 ∨ d = 9 := by omega
  rcases this with rfl | rfl | rfl | rfl | rfl | rfl | rfl | rfl | rfl | rfl <;> decide
/-- one round of Two. -/
theorem two_step (k : Nat) (x0 x1 x6 : Int) (l : List UInt8) (h : x6 < x1) (hx : 0 ≤ x0) (hx2 : x0 ≤ 9223372036854775807) (h6 : 0 ≤ x6) (h1 : x1 ≤ 100) (hl : l.length ≤ 1000) :
    fuseeref07_Two.l0 (k + 1) x0 x1 ⟨l.toArray⟩ x6 = fuseeref07_Two.l0 k (x0 / 10) x1 ⟨(dg (x0 % 10) :: l).toArray⟩ (x6 + 1) := by
  simp only [fuseeref07_Two.l0]
  have b0 : 0 ≤ x0 % 10 ∧ x0 % 10 ≤ 9 := by omega
  rw [if_pos h, tmd hx, tdv hx, wid (by omega) (by omega), wid (by omega) (by omega), wid (by omega) (by omega), if_pos b0.1, if_pos (by omega), if_pos (by omega), digit_at _ b0.1 b0.2, ba_size, ba_size, if_pos (by simp; omega), ba_app]
  rfl
theorem two_end (k : Nat) (x0 x1 : Int) (l : ByteArray) : fuseeref07_Two.l0 (k + 1) x0 x1 l x1 = some l := by
  simp only [fuseeref07_Two.l0]
  rw [if_neg (by omega)]
theorem two2 (k : Nat) (n : Int) (hk : 3 ≤ k) (h0 : 0 ≤ n) (h1 : n ≤ 99) : fuseeref07_Two.f k n 2 = some ⟨(padded 2 n).toArray⟩ := by
  obtain ⟨k, rfl⟩ : ∃ j, k = j + 3 := ⟨k - 3, by omega⟩
  unfold fuseeref07_Two.f
  have e : (⟨#[]⟩ : ByteArray) = ⟨([] : List UInt8).toArray⟩ := rfl
  rw [e, two_step _ _ _ _ _ (by omega) h0 (by omega) (by omega) (by omega) (by simp), two_step _ _ _ _ _ (by omega) (by omega) (by omega) (by omega) (by omega) (by simp)]
  rw [show (0 : Int) + 1 + 1 = 2 from rfl, two_end, padded2 n h0 h1]
  have : n / 10 % 10 = n / 10 := by omega
  rw [this]
theorem two4 (k : Nat) (n : Int) (hk : 5 ≤ k) (h0 : 0 ≤ n) (h1 : n ≤ 9999) : fuseeref07_Two.f k n 4 = some ⟨(padded 4 n).toArray⟩ := by
  obtain ⟨k, rfl⟩ : ∃ j, k = j + 5 := ⟨k - 5, by omega⟩
  unfold fuseeref07_Two.f
  have e : (⟨#[]⟩ : ByteArray) = ⟨([] : List UInt8).toArray⟩ := rfl
  rw [e, two_step _ _ _ _ _ (by omega) h0 (by omega) (by omega) (by omega) (by simp), two_step _ _ _ _ _ (by omega) (by omega) (by omega) (by omega) (by omega) (by simp),
    two_step _ _ _ _ _ (by omega) (by omega) (by omega) (by omega) (by omega) (by simp), two_step _ _ _ _ _ (by omega) (by omega) (by omega) (by omega) (by omega) (by simp)]
  rw [show (0 : Int) + 1 + 1 + 1 + 1 = 4 from rfl, two_end, padded4 n h0 h1]
  have a1 : n / 10 / 10 / 10 % 10 = n / 1000 := by omega
  have a2 : n / 10 / 10 % 10 = n / 100 % 10 := by omega
  rw [a1, a2]
theorem rtext (k : Nat) (y m d : Int) (hk : 5 ≤ k) (v : vld y m d) : fuseeref07_Text.f k y m d = some ⟨(dtext y m d).toArray⟩ := by
  obtain ⟨h1, h2, h3, h4, h5, h6⟩ := id v
  have hd := dim_bd y m
  have L4 := padded_len4 y (by omega) h2
  have L2 := padded_len2 m (by omega) (by omega)
  have L3 := padded_len2 d (by omega) (by omega)
  have e45 : (⟨#[45]⟩ : ByteArray) = ⟨([45] : List UInt8).toArray⟩ := rfl
  unfold fuseeref07_Text.f
  rw [two4 k y hk (by omega) h2, two2 k m (by omega) (by omega) (by omega), two2 k d (by omega) (by omega) (by omega)]
  simp only [Option.bind_some, e45, ba_app, ba_size, List.length_append, L4, L2, L3, List.length_cons, List.length_nil]
  rw [if_pos (by omega), if_pos (by omega), if_pos (by omega), if_pos (by omega)]
  simp [dtext]

/-! ### Digits, at two and at four bytes -/
theorem dig_step (k : Nat) (s : ByteArray) (x3 x4 : Int) (c : UInt8) (h0 : 0 ≤ x4) (h : x4 < (s.size : Int)) (hb : bt s x4 = c.toNat) (h3 : 0 ≤ x3) (h3' : x3 ≤ 100000) (h4 : x4 ≤ 1000) :
    fuseeref07_Digits.l0 (k + 1) s x3 x4 = if dgt c = true then fuseeref07_Digits.l0 k s (10 * x3 + dv c) (x4 + 1) else some (-1) := by
  have hc : c.toNat < 256 := c.toNat_lt
  simp only [fuseeref07_Digits.l0]
  rw [if_pos h, if_pos h0, hb]
  by_cases hd : dgt c = true
  · rw [if_pos hd]
    rw [dgt_iff] at hd
    rw [if_neg (by omega), if_neg (by omega), if_neg (by omega)]
    have e : ((c.toNat : Int) - 48) % 256 = dv c := by unfold dv; omega
    have := dv_bd c (by rw [dgt_iff]; exact hd)
    rw [e, wid (x := 10 * x3) (by omega) (by omega), wid (by omega) (by omega), wid (by omega) (by omega)]
  · rw [if_neg hd]
    rw [dgt_iff] at hd
    by_cases l : (c.toNat : Int) < 48
    · rw [if_pos l]
    · rw [if_neg l, if_pos (by omega)]
theorem dig_end (k : Nat) (s : ByteArray) (x3 x4 : Int) (h : (s.size : Int) ≤ x4) : fuseeref07_Digits.l0 (k + 1) s x3 x4 = some x3 := by
  simp only [fuseeref07_Digits.l0]
  rw [if_neg (by omega)]
theorem rdig2 (k : Nat) (a b : UInt8) (hk : 3 ≤ k) : fuseeref07_Digits.f k ⟨#[a, b]⟩ = some (if dgt a = true ∧ dgt b = true then 10 * dv a + dv b else -1) := by
  obtain ⟨k, rfl⟩ : ∃ j, k = j + 3 := ⟨k - 3, by omega⟩
  have hs : (⟨#[a, b]⟩ : ByteArray).size = 2 := rfl
  unfold fuseeref07_Digits.f
  rw [dig_step _ _ _ _ a (by omega) (by rw [hs]; omega) rfl (by omega) (by omega) (by omega)]
  by_cases ha : dgt a = true
  rotate_left
  · rw [if_neg ha, if_neg (fun c => ha c.1)]
  rw [if_pos ha]
  have va := dv_bd a ha
  rw [dig_step _ _ _ _ b (by omega) (by rw [hs]; omega) rfl (by omega) (by omega) (by omega)]
  by_cases hb : dgt b = true
  rotate_left
  · rw [if_neg hb, if_neg (fun c => hb c.2)]
  rw [if_pos hb, if_pos ⟨ha, hb⟩, dig_end _ _ _ _ (by rw [hs]; omega)]
  congr 1; omega
theorem rdig4 (k : Nat) (a b c d : UInt8) (hk : 5 ≤ k) : fuseeref07_Digits.f k ⟨#[a, b, c, d]⟩ = some (if dgt a = true ∧ dgt b = true ∧ dgt c = true ∧ dgt d = true then 1000 * dv a + 100 * dv b + 10 * dv c + dv d else -1) := by
  obtain ⟨k, rfl⟩ : ∃ j, k = j + 5 := ⟨k - 5, by omega⟩
  have hs : (⟨#[a, b, c, d]⟩ : ByteArray).size = 4 := rfl
  unfold fuseeref07_Digits.f
  rw [dig_step _ _ _ _ a (by omega) (by rw [hs]; omega) rfl (by omega) (by omega) (by omega)]
  by_cases ha : dgt a = true
  rotate_left
  · rw [if_neg ha, if_neg (fun c => ha c.1)]
  rw [if_pos ha]
  have va := dv_bd a ha
  rw [dig_step _ _ _ _ b (by omega) (by rw [hs]; omega) rfl (by omega) (by omega) (by omega)]
  by_cases hb : dgt b = true
  rotate_left
  · rw [if_neg hb, if_neg (fun c => hb c.2.1)]
  rw [if_pos hb]
  have vb := dv_bd b hb
  rw [dig_step _ _ _ _ c (by omega) (by rw [hs]; omega) rfl (by omega) (by omega) (by omega)]
  by_cases hc : dgt c = true
  rotate_left
  · rw [if_neg hc, if_neg (fun c => hc c.2.2.1)]
  rw [if_pos hc]
  have vc := dv_bd c hc
  rw [dig_step _ _ _ _ d (by omega) (by rw [hs]; omega) rfl (by omega) (by omega) (by omega)]
  by_cases hd : dgt d = true
  rotate_left
  · rw [if_neg hd, if_neg (fun c => hd c.2.2.2)]
  rw [if_pos hd, if_pos ⟨ha, hb, hc, hd⟩, dig_end _ _ _ _ (by rw [hs]; omega)]
  congr 1; omega
theorem dateOf_len {l : List UInt8} (h : l.length ≠ 10) : dateOf l = none := by
  unfold dateOf
  split
  · simp at h
  · rfl
end Go.Proofs.YtfjifhkgifefeaaGreatDoor.CivP
end

section
namespace Go.Proofs.YtfjifhkgifefeaaGreatDoor.PA
open Go.Proofs.YtfjifhkgifefeaaGreatDoor.Giv Go.RowKit Go.Proofs.YtfjifhkgifefeaaGreatDoorW.PrintWords Go.Proofs.YtfjifhkgifefeaaGreatDoorW.PrintLast Go.Proofs.YtfjifhkgifefeaaGreatDoorW.PrintMore
attribute [local go_sem] max2_int min2_int max_two min_two max_three min_three max_four min_four   -- for this text's walks alone
set_option linter.unusedVariables false
set_option linter.unusedSimpArgs false

/-! ### fuseeref08_Stamp: function 40 -/
def fuseeref08_Stamp.j0 : Nat → Int → Int → Int → Bool → Option (ByteArray × Int)
  | 0, _, _, _, _ => none
  | k + 1, x0, x1, x2, x24 => if x24 = true then (some ((⟨#[]⟩ : ByteArray), 1)) else ((fuseeref07_Of.f k x0).bind fun bt329 => (if bt329.2.2.2 = 0 then ((fuseeref08_Of.f x1).bind fun bt334 => ((fuseeref07_Text.f k bt329.1 bt329.2.1 bt329.2.2.1).bind fun t338 => (if t338.size + 1 ≤ 9223372036854775807 then ((fuseeref07_Two.f k bt334.1 2).bind fun t339 => (if (t338 ++ (⟨#[84]⟩ : ByteArray)).size + t339.size ≤ 9223372036854775807 then (if ((t338 ++ (⟨#[84]⟩ : ByteArray)) ++ t339).size + 1 ≤ 9223372036854775807 then ((fuseeref07_Two.f k bt334.2.1 2).bind fun t340 => (if (((t338 ++ (⟨#[84]⟩ : ByteArray)) ++ t339) ++ (⟨#[58]⟩ : ByteArray)).size + t340.size ≤ 9223372036854775807 then (if ((((t338 ++ (⟨#[84]⟩ : ByteArray)) ++ t339) ++ (⟨#[58]⟩ : ByteArray)) ++ t340).size + 1 ≤ 9223372036854775807 then ((fuseeref07_Two.f k bt334.2.2 2).bind fun t341 => (if (((((t338 ++ (⟨#[84]⟩ : ByteArray)) ++ t339) ++ (⟨#[58]⟩ : ByteArray)) ++ t340) ++ (⟨#[58]⟩ : ByteArray)).size + t341.size ≤ 9223372036854775807 then (if ((((((t338 ++ (⟨#[84]⟩ : ByteArray)) ++ t339) ++ (⟨#[58]⟩ : ByteArray)) ++ t340) ++ (⟨#[58]⟩ : ByteArray)) ++ t341).size + 1 ≤ 9223372036854775807 then ((fuseeref07_Two.f k x2 9).bind fun t342 => (if (((((((t338 ++ (⟨#[84]⟩ : ByteArray)) ++ t339) ++ (⟨#[58]⟩ : ByteArray)) ++ t340) ++ (⟨#[58]⟩ : ByteArray)) ++ t341) ++ (⟨#[46]⟩ : ByteArray)).size + t342.size ≤ 9223372036854775807 then (some ((((((((t338 ++ (⟨#[84]⟩ : ByteArray)) ++ t339) ++ (⟨#[58]⟩ : ByteArray)) ++ t340) ++ (⟨#[58]⟩ : ByteArray)) ++ t341) ++ (⟨#[46]⟩ : ByteArray)) ++ t342, 0)) else (none))) else (none)) else (none))) else (none)) else (none))) else (none)) else (none))) else (none)))) else (some ((⟨#[]⟩ : ByteArray), bt329.2.2.2))))
def fuseeref08_Stamp.f (k : Nat) (a0 : Int) (a1 : Int) (a2 : Int) : Option (ByteArray × Int) := if a1 < 0 then (fuseeref08_Stamp.j0 k a0 a1 a2 true) else (if a1 > 86400 then (fuseeref08_Stamp.j0 k a0 a1 a2 true) else (if a2 < 0 then (fuseeref08_Stamp.j0 k a0 a1 a2 true) else (fuseeref08_Stamp.j0 k a0 a1 a2 (decide (a2 > 999999999)))))
def fuseeref08_Stamp.T7 : Bool × List (List Nat × List Nat) := (true, [([], []), ([0], [0]), ([1], [1]), ([], []), ([3], [3]), ([4, 1], [4]), ([2, 5], [2, 5]), ([6], [6]), ([], []), ([8], [8]), ([9, 5], [9]), ([7, 10], [7, 10]), ([11], [11]), ([], []), ([13], [13]), ([14, 10], [14]), ([12, 15], [12, 15]), ([16], [16]), ([], []), ([18, 15], [18]), ([17, 19], [17, 19]), ([20, 19, 0, 1, 2, 3, 4, 5, 6, 7, 8, 9, 10, 11, 12, 13, 14, 15, 16, 17, 18, 19, 20], [20]), ([21, 0, 1, 2, 3, 4, 5, 6, 7, 8, 9, 10, 11, 12, 13, 14, 15, 16, 17, 18, 19, 20, 21], [])])
def fuseeref08_Stamp.B7 : List Nat := [0, 1, 3, 0, 8, 27, 63, 127, 0, 256, 827, 2047, 4095, 0, 8192, 26427, 65535, 131071, 0, 321339, 1048575, 2097151, 4194303]
end Go.Proofs.YtfjifhkgifefeaaGreatDoor.PA
end

section
/- What the printed daytime.Stamp and the document's Stamp answer. -/
namespace Go.Proofs.YtfjifhkgifefeaaGreatDoor.CivP
open Go.RowKit Go.Proofs.YtfjifhkgifefeaaGreatDoor.PA Go.Proofs.YtfjifhkgifefeaaGreatDoor.CivM Go.Proofs.YtfjifhkgifefeaaGreatDoor.StrM Go.Proofs.YtfjifhkgifefeaaGreatDoor.Giv Go.Proofs.YtfjifhkgifefeaaGreatDoorW.PrintWords

def stext (y m d n nano : Int) : List UInt8 := dtext y m d ++ 84 :: (digs 2 (tod n).1 ++ 58 :: (digs 2 (tod n).2.1 ++ 58 :: (digs 2 (tod n).2.2 ++ 46 :: digs 9 nano)))
theorem dtext_len {y m d : Int} (v : vld y m d) : (dtext y m d).length = 10 := by rw [dtext_eq v]; rfl
theorem tod_bd (h m s : Int) (v : tvld h m s) : (0 ≤ h ∧ h ≤ 99) ∧ (0 ≤ m ∧ m ≤ 99) ∧ 0 ≤ s ∧ s ≤ 99 := by unfold tvld at v; omega
theorem digs2 (n : Int) (h0 : 0 ≤ n) (h1 : n ≤ 99) : daytime_digits.f n 2 = some ⟨(digs 2 n).toArray⟩ := tdigits n 1 h0 (by show n < 10 ^ 2; omega) (by omega)
theorem digs9 (n : Int) (h0 : 0 ≤ n) (h1 : n ≤ 999999999) : daytime_digits.f n 9 = some ⟨(digs 9 n).toArray⟩ := tdigits n 8 h0 (by show n < 10 ^ 9; omega) (by omega)
theorem dstamp_ok (k : Nat) (y m d sec nano : Int) (hk : 5 ≤ k) (v : vld y m d) (s0 : 0 ≤ sec) (s1 : sec ≤ 86400) (n0 : 0 ≤ nano) (n1 : nano ≤ 999999999) :
    daytime_Stamp.f k (num y m d) sec nano = some (⟨(stext y m d sec nano).toArray⟩, none) := by
  obtain ⟨k, rfl⟩ : ∃ j, k = j + 1 := ⟨k - 1, by omega⟩
  obtain ⟨y', m', d', v', hn, e⟩ := of_ok k (num y m d) (by omega) (num_bd v).1 (num_bd v).2
  obtain ⟨rfl, rfl, rfl⟩ := num_inj v v' hn.symm
  obtain ⟨b1, b2, b3⟩ := tod_bd _ _ _ (tod_vld sec s0 s1)
  unfold daytime_Stamp.f
  have nb : ¬ (sec < 0 ∨ 86400 < sec) := by omega
  rw [tof (k + 1) sec (by omega), if_neg nb]
  simp only [Option.bind_some, Option.isNone_none, if_true]
  rw [if_neg (by omega : ¬ nano < 0), decide_eq_false (by omega : ¬ nano ≥ 1000000000)]
  simp only [daytime_Stamp.j0, Bool.false_eq_true, if_false]
  rw [e]
  simp only [Option.bind_some, Option.isNone_none, if_true]
  rw [text k _ _ _ (by omega), if_pos v]
  have e84 : (⟨#[84]⟩ : ByteArray) = ⟨([84] : List UInt8).toArray⟩ := rfl
  have e58 : (⟨#[58]⟩ : ByteArray) = ⟨([58] : List UInt8).toArray⟩ := rfl
  have e46 : (⟨#[46]⟩ : ByteArray) = ⟨([46] : List UInt8).toArray⟩ := rfl
  simp only [Option.bind_some, Option.isNone_none, if_true, digs2 _ b1.1 b1.2, digs2 _ b2.1 b2.2, digs2 _ b3.1 b3.2, digs9 _ n0 n1, e84, e58, e46, ba_app, ba_size, List.length_append, digs_len, dtext_len v, List.length_cons, List.length_nil]
  repeat rw [if_pos (by omega)]
  simp [stext]
/-- The document's digits: so many of them, from behind. -/
theorem two_go (k : Nat) : ∀ (w : Nat) (x0 x1 : Int) (l : List UInt8), 0 ≤ x0 → x0 ≤ 9223372036854775807 → w + l.length ≤ 100 → x1 ≤ 100 → x1 = w + l.length → w + 1 ≤ k →
    fuseeref07_Two.l0 k x0 x1 ⟨l.toArray⟩ (l.length : Int) = some ⟨(digs w x0 ++ l).toArray⟩ := by
  intro w
  induction w generalizing k with
  | zero =>
    intro x0 x1 l _ _ _ _ hx hk
    obtain ⟨k, rfl⟩ : ∃ j, k = j + 1 := ⟨k - 1, by omega⟩
    have : x1 = (l.length : Int) := by omega
    rw [this, two_end]; rfl
  | succ w ih =>
    intro x0 x1 l h0 h1 hl h100 hx hk
    obtain ⟨k, rfl⟩ : ∃ j, k = j + 1 := ⟨k - 1, by omega⟩
    rw [two_step k x0 x1 _ l (by omega) h0 h1 (by omega) h100 (by omega)]
    have e : (l.length : Int) + 1 = ((dg (x0 % 10) :: l).length : Int) := by simp
    have h := ih k (x0 / 10) x1 (dg (x0 % 10) :: l) (by omega) (by omega) (by simp; omega) h100 (by simp; omega) (by omega)
    rw [← e] at h
    rw [h]
    simp [digs]
theorem two_w (k w : Nat) (n : Int) (hk : w + 1 ≤ k) (hw : w ≤ 100) (h0 : 0 ≤ n) (h1 : n ≤ 9223372036854775807) : fuseeref07_Two.f k n w = some ⟨(digs w n).toArray⟩ := by
  unfold fuseeref07_Two.f
  have h := two_go k w n w [] h0 h1 (by simp; omega) (by omega) (by simp) hk
  simpa using h
end Go.Proofs.YtfjifhkgifefeaaGreatDoor.CivP
end

section
namespace Go.Proofs.YtfjifhkgifefeaaGreatDoor.PA
open Go.Proofs.YtfjifhkgifefeaaGreatDoor.Giv Go.RowKit Go.Proofs.YtfjifhkgifefeaaGreatDoorW.PrintWords Go.Proofs.YtfjifhkgifefeaaGreatDoorW.PrintLast Go.Proofs.YtfjifhkgifefeaaGreatDoorW.PrintMore
attribute [local go_sem] max2_int min2_int max_two min_two max_three min_three max_four min_four   -- for this text's walks alone
set_option linter.unusedVariables false
set_option linter.unusedSimpArgs false

/-! ### fuseelaw08_sure: function 37 -/
def fuseelaw08_sure.f (k : Nat)  : Option (Bool) := (daytime_Stamp.f k 0 3661 0).bind fun bt291 => ((daytime_Parse.f k (⟨#[50, 48, 49, 54, 45, 49, 50, 45, 51, 49, 84, 50, 51, 58, 53, 57, 58, 54, 48, 46, 53, 48, 48, 48, 48, 48, 48, 48, 48]⟩ : ByteArray)).bind fun bt293 => ((daytime_Of.f k 86401).bind fun bt297 => (if bt291.2.isNone = true then (if bt293.2.2.2.isNone = true then (if bt291.1.toList = ([49, 57, 55, 48, 45, 48, 49, 45, 48, 49, 84, 48, 49, 58, 48, 49, 58, 48, 49, 46, 48, 48, 48, 48, 48, 48, 48, 48, 48] : List UInt8) then (if bt293.1 = 17166 then (if bt293.2.1 = 86400 then (if bt293.2.2.1 = 500000000 then ((fuseelaw08_num.f bt297.2.2.2).bind fun t304 => (some (t304 == 1))) else (some false)) else (some false)) else (some false)) else (some false)) else (some false)) else (some false))))
end Go.Proofs.YtfjifhkgifefeaaGreatDoor.PA
end

section
/- What the printed daytime.Parse answers of a stamp; the closed part of the daytime laws ('sure'): it is true. -/
namespace Go.Proofs.YtfjifhkgifefeaaGreatDoor.CivP
open Go.RowKit Go.Proofs.YtfjifhkgifefeaaGreatDoor.PA Go.Proofs.YtfjifhkgifefeaaGreatDoor.CivM Go.Proofs.YtfjifhkgifefeaaGreatDoor.StrM Go.Proofs.YtfjifhkgifefeaaGreatDoor.Giv Go.Proofs.YtfjifhkgifefeaaGreatDoorW.PrintWords

theorem ext_eq (l a b c : List UInt8) (h : l = a ++ (b ++ c)) (i j : Nat) (hi : i = a.length) (hj : j = a.length + b.length) : (⟨l.toArray⟩ : ByteArray).extract i j = ⟨b.toArray⟩ := by
  subst h hi hj
  apply ByteArray.ext
  rw [ByteArray.data_extract]
  simp
theorem number_digs (w : Nat) (n : Int) (hw : w + 1 ≤ 18) (h0 : 0 ≤ n) (h1 : n < 10 ^ (w + 1)) : daytime_number.f ⟨(digs (w + 1) n).toArray⟩ = some n := by
  unfold daytime_number.f numberOf
  have hl : (digs (w + 1) n).length = w + 1 := digs_len _ _
  rw [ba_size, hl, if_pos (by omega)]
  have e : (⟨(digs (w + 1) n).toArray⟩ : ByteArray).data.toList = digs (w + 1) n := rfl
  rw [e, atoi_digits _ (by intro h; rw [h] at hl; simp at hl) (by omega) (digs_all _ n h0), decv_digs _ n h0 h1]
theorem stext_len {y m d sec nano : Int} (v : vld y m d) : (stext y m d sec nano).length = 29 := by simp [stext, dtext_len v, digs_len]
theorem parse_dtext {y m d : Int} (v : vld y m d) : civil_Parse.f ⟨(dtext y m d).toArray⟩ = some (y, m, d, none) := by
  unfold civil_Parse.f
  rw [if_pos (by rw [ba_size, dtext_len v]; omega)]
  have e : (⟨(dtext y m d).toArray⟩ : ByteArray).data.toList = dtext y m d := rfl
  rw [e, dateOf_dtext v]
theorem dparse_ok (k : Nat) (y m d sec nano : Int) (hk : 5 ≤ k) (v : vld y m d) (s0 : 0 ≤ sec) (s1 : sec ≤ 86400) (n0 : 0 ≤ nano) (n1 : nano ≤ 999999999) :
    daytime_Parse.f k ⟨(stext y m d sec nano).toArray⟩ = some (num y m d, sec, nano, none) := by
  have tv := tod_vld sec s0 s1
  have ts := tsec_tod sec s0 s1
  obtain ⟨b1, b2, b3⟩ := tod_bd _ _ _ tv
  have hs : (⟨(stext y m d sec nano).toArray⟩ : ByteArray).size = 29 := by rw [ba_size, stext_len v]
  have x0 : (⟨(stext y m d sec nano).toArray⟩ : ByteArray).extract 0 10 = ⟨(dtext y m d).toArray⟩ := ext_eq _ [] (dtext y m d) _ (by simp [stext]; rfl) 0 10 (by simp) (by simp [dtext_len v])
  have x1 : (⟨(stext y m d sec nano).toArray⟩ : ByteArray).extract 11 13 = ⟨(digs 2 (tod sec).1).toArray⟩ := ext_eq _ (dtext y m d ++ [84]) (digs 2 (tod sec).1) (58 :: (digs 2 (tod sec).2.1 ++ 58 :: (digs 2 (tod sec).2.2 ++ 46 :: digs 9 nano))) (by simp [stext]) 11 13 (by simp [dtext_len v]) (by simp [dtext_len v, digs_len])
  have x2 : (⟨(stext y m d sec nano).toArray⟩ : ByteArray).extract 14 16 = ⟨(digs 2 (tod sec).2.1).toArray⟩ := ext_eq _ (dtext y m d ++ 84 :: digs 2 (tod sec).1 ++ [58]) (digs 2 (tod sec).2.1) (58 :: (digs 2 (tod sec).2.2 ++ 46 :: digs 9 nano)) (by simp [stext]) 14 16 (by simp [dtext_len v, digs_len]) (by simp [dtext_len v, digs_len])
  have x3 : (⟨(stext y m d sec nano).toArray⟩ : ByteArray).extract 17 19 = ⟨(digs 2 (tod sec).2.2).toArray⟩ := ext_eq _ (dtext y m d ++ 84 :: digs 2 (tod sec).1 ++ 58 :: digs 2 (tod sec).2.1 ++ [58]) (digs 2 (tod sec).2.2) (46 :: digs 9 nano) (by simp [stext]) 17 19 (by simp [dtext_len v, digs_len]) (by simp [dtext_len v, digs_len])
  have x4 : (⟨(stext y m d sec nano).toArray⟩ : ByteArray).extract 20 29 = ⟨(digs 9 nano).toArray⟩ := ext_eq _ (dtext y m d ++ 84 :: digs 2 (tod sec).1 ++ 58 :: digs 2 (tod sec).2.1 ++ 58 :: digs 2 (tod sec).2.2 ++ [46]) (digs 9 nano) [] (by simp [stext]) 20 29 (by simp [dtext_len v, digs_len]) (by simp [dtext_len v, digs_len])
  have N2 : ∀ n : Int, 0 ≤ n → n ≤ 99 → daytime_number.f ⟨(digs 2 n).toArray⟩ = some n := fun n a b => number_digs 1 n (by omega) a (by show n < 10 ^ 2; omega)
  have N9 : daytime_number.f ⟨(digs 9 nano).toArray⟩ = some nano := number_digs 8 nano (by omega) n0 (by show nano < 10 ^ 9; omega)
  unfold daytime_Parse.f
  rw [hs, x0, x1, x2, x3, x4, parse_dtext v, N2 _ b1.1 b1.2, N2 _ b2.1 b2.2, N2 _ b3.1 b3.2, N9]
  simp only [Option.bind_some, Option.isNone_none, if_true]
  rw [days k y m d (by omega), if_pos v, tseconds, if_pos tv, ts]
  simp only [Option.bind_some, Option.isNone_none, if_true]
  rw [dstamp_ok k y m d sec nano hk v s0 s1 n0 n1]
  simp only [Option.bind_some, Option.isNone_none, if_true]
  repeat rw [if_pos (by omega)]
end Go.Proofs.YtfjifhkgifefeaaGreatDoor.CivP
end

section
/- An error against nil, undecided: one Bool. -/
namespace Go.Proofs.YtfjifhkgifefeaaGreatDoor.Giv
open Go.RowKit Go.Proofs.YtfjifhkgifefeaaGreatDoor
@[go_sem] theorem eqGuard_errW (op : BinOp) (t : TypeId) (x : Operand) (c : Value) (r : Option Int) : eqGuard op t x (.const c) (errW r) .nilIface = pure () := by
  cases op <;> cases r <;> first | rfl | (simp [eqGuard, errW])
@[go_sem] theorem eql_errW (r : Option Int) (w : World) : (binOp .eql 28 (errW r) .nilIface).run Tryz.prog w = .ok (.bool r.isNone) w := by
  have h := Tryz.underlying28
  cases r
  · exact run_eql_nil_nil w 28 (by kernel_rfl)
  · exact run_eql_held_nil w 28 _ _ (by kernel_rfl)
@[go_sem] theorem neq_errW (r : Option Int) (w : World) : (binOp .neq 28 (errW r) .nilIface).run Tryz.prog w = .ok (.bool r.isSome) w := by
  cases r
  · exact run_neq_nil_nil w 28 (by kernel_rfl)
  · exact run_neq_held_nil w 28 _ _ (by kernel_rfl)
theorem isSome_f {t : Option Int} (h : t.isNone = true) : t.isSome = false := by cases t <;> simp_all
theorem isNone_f {t : Option Int} (h : ¬ t.isNone = true) : t.isNone = false := by cases t <;> simp_all
theorem isSome_t {t : Option Int} (h : ¬ t.isNone = true) : t.isSome = true := by cases t <;> simp_all
end Go.Proofs.YtfjifhkgifefeaaGreatDoor.Giv
end

section
namespace Go.Proofs.YtfjifhkgifefeaaGreatDoor.PE
open Go.Proofs.YtfjifhkgifefeaaGreatDoor.Giv Go.Proofs.YtfjifhkgifefeaaGreatDoor.PA Go.RowKit Go.Proofs.YtfjifhkgifefeaaGreatDoorW.PrintWords Go.Proofs.YtfjifhkgifefeaaGreatDoorW.PrintLast Go.Proofs.YtfjifhkgifefeaaGreatDoorW.PrintMore
attribute [local go_sem] max2_int min2_int max_two min_two max_three min_three max_four min_four   -- for this text's walks alone
set_option linter.unusedVariables false
set_option linter.unusedSimpArgs false





end Go.Proofs.YtfjifhkgifefeaaGreatDoor.PE
end

section
namespace Go.Proofs.YtfjifhkgifefeaaGreatDoor.PE
open Go.Proofs.YtfjifhkgifefeaaGreatDoor.Giv Go.Proofs.YtfjifhkgifefeaaGreatDoor.PA Go.RowKit Go.Proofs.YtfjifhkgifefeaaGreatDoorW.PrintWords Go.Proofs.YtfjifhkgifefeaaGreatDoorW.PrintLast Go.Proofs.YtfjifhkgifefeaaGreatDoorW.PrintMore
attribute [local go_sem] max2_int min2_int max_two min_two max_three min_three max_four min_four   -- for this text's walks alone
set_option linter.unusedVariables false
set_option linter.unusedSimpArgs false

theorem eqA26 (d : Nat) (w : World) (x0 y0 : Int) (x1 y1 : Int) (x2 y2 : Int) :
    (Op.equalIn (d + 2) 26 (.agg #[.int .i64 x0, .int .i64 x1, .int .i64 x2]) (.agg #[.int .i64 y0, .int .i64 y1, .int .i64 y2])).run Tryz.prog w = .ok (x0 == y0 && (x1 == y1 && (x2 == y2))) w := by
  refine eqA_of Tryz.underlying26 (by kernel_rfl) ?_
  refine eqf_cons (by rfl) (by go_simp; rfl) (by go_simp; rfl) (by go_simp) ?_
  refine eqf_cons (by rfl) (by go_simp; rfl) (by go_simp; rfl) (by go_simp) ?_
  exact eqf_last (by rfl) (by go_simp; rfl) (by go_simp; rfl) (by go_simp)
end Go.Proofs.YtfjifhkgifefeaaGreatDoor.PE
end

