/- DaytimeStamps, whole: any day, second and nanoseconds as a text, and those of any text, or the errors. No condition. -/
import Derived.Test.YtfjifhkgifefeaaGreatDoorZDt3
set_option linter.unusedVariables false
set_option linter.unusedSimpArgs false
section
/- What the printed functions of daytime and of the document's chapter 8 answer: times, seconds, stamps. -/
namespace Go.Proofs.YtfjifhkgifefeaaGreatDoor.CivP
open Go.RowKit Go.Proofs.YtfjifhkgifefeaaGreatDoor.PA Go.Proofs.YtfjifhkgifefeaaGreatDoor.CivM Go.Proofs.YtfjifhkgifefeaaGreatDoor.StrM Go.Proofs.YtfjifhkgifefeaaGreatDoor.Giv Go.Proofs.YtfjifhkgifefeaaGreatDoorW.PrintWords

def tvld (h m s : Int) : Prop := (h = 23 ∧ m = 59 ∧ s = 60) ∨ (0 ≤ h ∧ h ≤ 23 ∧ 0 ≤ m ∧ m ≤ 59 ∧ 0 ≤ s ∧ s ≤ 59)
instance (h m s : Int) : Decidable (tvld h m s) := by unfold tvld; infer_instance
def tsec (h m s : Int) : Int := h * 3600 + m * 60 + s
def tod (n : Int) : Int × Int × Int := if n = 86400 then (23, 59, 60) else (n / 3600, n / 60 % 60, n % 60)
theorem tcheck (h m s : Int) : daytime_Check.f h m s = some (if tvld h m s then none else some 1) := by
  unfold daytime_Check.f
  by_cases v : tvld h m s
  · rw [if_pos v]
    unfold tvld at v
    by_cases c : (h == 23 && (m == 59 && (s == 60))) = true
    · rw [if_pos c]
    · rw [if_neg c]
      have c' : ¬ (h = 23 ∧ m = 59 ∧ s = 60) := by simpa [and_assoc] using c
      rw [if_neg (by omega), if_neg (by omega), if_neg (by omega), if_neg (by omega), if_neg (by omega), if_neg (by omega)]
  · rw [if_neg v]
    unfold tvld at v
    have c : ¬ (h == 23 && (m == 59 && (s == 60))) = true := by
      intro c
      exact v (.inl (by simpa [and_assoc] using c))
    rw [if_neg c]
    repeat (split; · rfl)
    omega
theorem tsec_bd (h m s : Int) (v : tvld h m s) : 0 ≤ tsec h m s ∧ tsec h m s ≤ 86400 := by unfold tvld at v; unfold tsec; omega
theorem tsec_tod (n : Int) (h0 : 0 ≤ n) (h1 : n ≤ 86400) : tsec (tod n).1 (tod n).2.1 (tod n).2.2 = n := by
  unfold tod tsec
  by_cases c : n = 86400
  · rw [if_pos c, c]; rfl
  · rw [if_neg c]; simp only; omega
theorem tod_vld (n : Int) (h0 : 0 ≤ n) (h1 : n ≤ 86400) : tvld (tod n).1 (tod n).2.1 (tod n).2.2 := by
  unfold tod tvld
  by_cases c : n = 86400
  · rw [if_pos c]; simp
  · rw [if_neg c]; simp only; omega
theorem tod_tsec (h m s : Int) (v : tvld h m s) : tod (tsec h m s) = (h, m, s) := by
  unfold tvld at v
  unfold tod tsec
  rcases v with ⟨rfl, rfl, rfl⟩ | v
  · rfl
  · rw [if_neg (by omega)]
    refine Prod.ext ?_ (Prod.ext ?_ ?_) <;> simp only <;> omega
theorem tseconds (h m s : Int) : daytime_Seconds.f h m s = some (if tvld h m s then (tsec h m s, none) else (0, some 1)) := by
  unfold daytime_Seconds.f
  rw [tcheck]
  simp only [Option.bind_some]
  by_cases v : tvld h m s
  · rw [if_pos v, if_pos v]
    unfold tvld at v
    simp only [Option.isNone_none, if_true]
    rw [wid (x := h * 3600) (by omega) (by omega), wid (x := m * 60) (by omega) (by omega), wid (x := h * 3600 + m * 60) (by omega) (by omega), wid (x := h * 3600 + m * 60 + s) (by omega) (by omega)]
    rfl
  · rw [if_neg v, if_neg v]; simp
theorem tof (k : Nat) (n : Int) (hk : 1 ≤ k) : daytime_Of.f k n = some (if n < 0 ∨ 86400 < n then (0, 0, 0, some 1) else ((tod n).1, (tod n).2.1, (tod n).2.2, none)) := by
  obtain ⟨k, rfl⟩ : ∃ j, k = j + 1 := ⟨k - 1, by omega⟩
  unfold daytime_Of.f
  clear hk
  by_cases a : n < 0
  · rw [if_pos a, if_pos (.inl a)]; rfl
  rw [if_neg a]
  simp only [daytime_Of.j0, decide_eq_true_eq]
  by_cases b : n > 86400
  · rw [if_pos b, if_pos (.inr b)]
  rw [if_neg b]
  have nb : ¬ (n < 0 ∨ 86400 < n) := by omega
  rw [if_neg nb]
  unfold tod
  by_cases c : n = 86400
  · simp only [if_pos c]
  · simp only [if_neg c]
    simp (disch := omega) only [wid, tdv, tmd]
theorem rseconds (k : Nat) (h m s : Int) (hk : 1 ≤ k) : fuseeref08_Seconds.f k h m s = some (if tvld h m s then tsec h m s else -1) := by
  obtain ⟨k, rfl⟩ : ∃ j, k = j + 1 := ⟨k - 1, by omega⟩
  have J : ∀ b : Bool, (b = true ↔ (h = 23 ∧ m = 59 ∧ s = 60)) → fuseeref08_Seconds.j0 (k + 1) b h m s = some (if tvld h m s then tsec h m s else -1) := by
    intro b hb
    simp only [fuseeref08_Seconds.j0]
    by_cases c : b = true
    · rw [if_pos c]
      obtain ⟨rfl, rfl, rfl⟩ := hb.1 c
      rw [if_pos (.inl ⟨rfl, rfl, rfl⟩)]; rfl
    · rw [if_neg c]
      have c' := fun x => c (hb.2 x)
      by_cases v : tvld h m s
      · rw [if_pos v]
        unfold tvld at v
        have v2 := v.resolve_left c'
        rw [if_neg (by omega), if_neg (by omega), if_neg (by omega), if_neg (by omega), if_neg (by omega), if_neg (by omega)]
        rw [wid (x := h * 60) (by omega) (by omega), wid (x := h * 60 + m) (by omega) (by omega), wid (x := (h * 60 + m) * 60) (by omega) (by omega), wid (x := (h * 60 + m) * 60 + s) (by omega) (by omega)]
        congr 1; unfold tsec; omega
      · rw [if_neg v]
        unfold tvld at v
        repeat (split; · rfl)
        omega
  unfold fuseeref08_Seconds.f
  by_cases a : h = 23
  · rw [if_pos a]
    by_cases b : m = 59
    · rw [if_pos b]; exact J _ (by simp [a, b])
    · rw [if_neg b]; exact J _ (by simp [b])
  · rw [if_neg a]; exact J _ (by simp [a])
theorem rtof (n : Int) (h0 : 0 ≤ n) (h1 : n ≤ 86400) : fuseeref08_Of.f n = some (tod n) := by
  unfold fuseeref08_Of.f tod
  by_cases c : n = 86400
  · rw [if_pos c, if_pos c]
  · rw [if_neg c, if_neg c]
    simp (disch := omega) only [wid, tdv, tmd]
    have e : n / 60 / 60 = n / 3600 := by omega
    rw [e]
/-- A number with so many digits, as daytime tells it. -/
theorem tdigits (n : Int) (w : Nat) (h0 : 0 ≤ n) (h1 : n < 10 ^ (w + 1)) (hw : w + 1 ≤ 18) : daytime_digits.f n ((w + 1 : Nat) : Int) = some ⟨(digs (w + 1) n).toArray⟩ := by
  have hl := itoa_le w n h0 h1
  have hb : (10 : Int) ^ (w + 1) ≤ 1000000000000000000 := by
    have := Nat.pow_le_pow_right (n := 10) (by omega) hw
    have e : ((10 ^ (w + 1) : Nat) : Int) = (10 : Int) ^ (w + 1) := by simp
    have e2 : (10 : Nat) ^ 18 = 1000000000000000000 := by decide
    omega
  unfold daytime_digits.f strconv_FormatInt.f
  rw [if_pos ⟨rfl, by omega, by omega⟩]
  simp only [Option.bind_some, ba_size]
  rw [wid (by omega) (by omega)]
  have em : mx 0 (((w + 1 : Nat) : Int) - ((Lib.itoa n).length : Int)) = ((w + 1 : Nat) : Int) - ((Lib.itoa n).length : Int) := by unfold mx; omega
  rw [em]
  unfold strings_Repeat.f
  have e1 : (((w + 1 : Nat) : Int) - ((Lib.itoa n).length : Int)).toNat = w + 1 - (Lib.itoa n).length := by omega
  rw [e1]
  have e2 : (⟨#[48]⟩ : ByteArray).size = 1 := rfl
  rw [e2, if_pos ⟨by omega, by omega, by omega⟩]
  simp only [Option.bind_some]
  rw [ba_size, ba_app]
  have e4 : (Lib.repeatL [48] (w + 1 - (Lib.itoa n).length)).length = 1 * (w + 1 - (Lib.itoa n).length) := by simp [Lib.repeatL_length]
  have hp := padded_eq w n h0 h1
  unfold padded at hp
  rw [e4, if_pos (by omega)]
  have e5 : (⟨#[48]⟩ : ByteArray).data.toList = [48] := rfl
  first | rw [hp] | (rw [e5, hp])
end Go.Proofs.YtfjifhkgifefeaaGreatDoor.CivP
end

section
namespace Go.Proofs.YtfjifhkgifefeaaGreatDoor.PA
open Go.Proofs.YtfjifhkgifefeaaGreatDoor.Giv Go.RowKit Go.Proofs.YtfjifhkgifefeaaGreatDoorW.PrintWords Go.Proofs.YtfjifhkgifefeaaGreatDoorW.PrintLast Go.Proofs.YtfjifhkgifefeaaGreatDoorW.PrintMore
attribute [local go_sem] max2_int min2_int max_two min_two max_three min_three max_four min_four   -- for this text's walks alone
set_option linter.unusedVariables false
set_option linter.unusedSimpArgs false

/-! ### fuseeref07_Of: function 25 -/
mutual
def fuseeref07_Of.j0 : Nat → Int → Bool → Option (Int × Int × Int × Int)
  | 0, _, _ => none
  | k + 1, x0, x12 => if x12 = true then (some (0, 0, 0, 2)) else (fuseeref07_Of.l0 k (wrap64 (x0 + 719162)) 1 1 1)
def fuseeref07_Of.j2 : Nat → Int → Int → Int → Int → Option (Int × Int × Int × Int)
  | 0, _, _, _, _ => none
  | k + 1, x4, x176000, x176001, x176002 => fuseeref07_Of.l1 k x4 x176000 x176001 x176002
def fuseeref07_Of.l1 : Nat → Int → Int → Int → Int → Option (Int × Int × Int × Int)
  | 0, _, _, _, _ => none
  | k + 1, x4, x176000, x176001, x176002 => (fuseeref07_Month.f k x176000 x176001).bind fun t177 => (if x4 ≥ t177 then ((fuseeref07_Month.f k x176000 x176001).bind fun t178 => (fuseeref07_Of.l1 k (wrap64 (x4 - t178)) x176000 (wrap64 (x176001 + 1)) x176002)) else (some (x176000, x176001, wrap64 (1 + x4), 0)))
def fuseeref07_Of.l0 : Nat → Int → Int → Int → Int → Option (Int × Int × Int × Int)
  | 0, _, _, _, _ => none
  | k + 1, x4, x176000, x176001, x176002 => (fuseeref07_Leap.f x176000).bind fun t176 => (if t176 = true then (if x4 < 366 then (fuseeref07_Of.j2 k x4 x176000 x176001 x176002) else (fuseeref07_Of.l0 k (wrap64 (x4 - 366)) (wrap64 (x176000 + 1)) x176001 x176002)) else (if x4 < 365 then (fuseeref07_Of.j2 k x4 x176000 x176001 x176002) else (fuseeref07_Of.l0 k (wrap64 (x4 - 365)) (wrap64 (x176000 + 1)) x176001 x176002)))
end
def fuseeref07_Of.f (k : Nat) (a0 : Int) : Option (Int × Int × Int × Int) := if a0 < (-719162) then (fuseeref07_Of.j0 k a0 true) else (fuseeref07_Of.j0 k a0 (decide (a0 > 2932896)))
set_option maxHeartbeats 8000000 in
set_option maxRecDepth 100000 in
theorem fuseeref07_Of.calls (k : Nat) (a0 : Int) (r1 : Int) (r2 : Int) (r3 : Int) (r4 : Int) (w : World) (h : fuseeref07_Of.f k a0 = some (r1, r2, r3, r4)) :
    Calls Tryz.prog 25 #[.int .i64 a0] w fun e w' => e = .returned (.tuple #[.agg #[.int .i64 r1, .int .i64 r2, .int .i64 r3], .int .i64 r4]) ∧ Below w.heap.size w w' := by
  have hu23 := Tryz.underlying23
  have HB := Aside0.mk (Below.refl w.heap.size w)
  have H := h
  clear h
  replace H : (if a0 < (-719162) then (fuseeref07_Of.j0 k a0 true) else (fuseeref07_Of.j0 k a0 (decide (a0 > 2932896)))) = some (r1, r2, r3, r4) := H
  have HC2 := Aside0.mk H
  clear H
  go_enter Tryz.func25, Tryz.ntmps25
  go_upto_region 1 with (first | ((with_reducible refine gate_dst (N := 2) rfl ?_); refine box_event ?hg (N := 2) ?hd (cs := #[.int .i64 0, .int .i64 0, .int .i64 0]) (t := 23) ?hr ?_; (case hd => rfl); (case hg => rfl); (case hr => first | (go_simp; done) | (go_simp; rfl)); intro gb174 hg w3 hbox hb; have n0_ := Aside0.mk (below_step (by repeat (first | (with_reducible first | exact HB.out | apply below_alloc | apply pw_below_drewN | apply below_drew1) | exact HB.out)) hb); have n1_ := Aside0.mk (hbox); have n2_ := Aside0.mk ((by rw [hg]; exact (below_size (by repeat (first | (with_reducible first | exact HB.out | apply below_alloc | apply pw_below_drewN | apply below_drew1) | exact HB.out))) : w.heap.size ≤ gb174)); have n3_ := Aside0.mk ((by rw [hg]; exact (below_size (by repeat (first | (with_reducible first | exact HB.out | apply below_alloc | apply pw_below_drewN | apply below_drew1) | exact HB.out))) : w.heap.size ≤ gb174)); clear HB; have HB := n0_; have BK174 := n1_; have GW174 := n2_; have GE174 := n3_; clear n0_ n1_ n2_ n3_; clear hb hbox hg))
  (try simp only [Act.put, List.setIfInBounds_toArray, List.set_cons_zero, List.set_cons_succ])
  go_cut [12] (fun v12 wc => ∃ (kq : Nat) (x12_1 : Bool), v12 = .bool x12_1 ∧ Aside0 (fuseeref07_Of.j0 kq a0 x12_1 = some (r1, r2, r3, r4)) ∧ Aside0 (kq ≤ k) ∧ Aside0 (wc.heap[gb174]? = some (.cells #[.int .i64 0, .int .i64 0, .int .i64 0] 23 (0, 0))) ∧ Aside0 (Below w.heap.size w wc))
  case first =>
    have H := HC2.out
    clear HC2
    by_cases c4 : a0 < (-719162)
    · rw [if_pos c4] at H
      have c4b0 : decide (a0 < (-719162)) = true := decide_eq_true c4
      clear c4
      (first | rw [c4b0] | (simp only [i64_w, i32_w]; rw [c4b0]) | skip)
      have H' := Aside0.mk H
      clear H
      go_wp2
      go_meet
      case rel => exact ⟨_, (true), (by first | rfl | (simp; done) | (simp [*]; done)), H', ⟨by first | omega | exact Nat.le_refl _⟩, ⟨by (with_reducible repeat (first | refine blk_drewN ?_ _ | refine blk_drew ?_ | refine blk_alloc ?_ _)); exact BK174.out⟩, ⟨by repeat (first | (with_reducible first | exact HB.out | apply below_alloc | apply pw_below_drewN | apply below_drew1 | refine below_set ?_ GE174.out) | exact HB.out)⟩⟩
    · rw [if_neg c4] at H
      have c4b0 : decide (a0 < (-719162)) = false := decide_eq_false c4
      clear c4
      (first | rw [c4b0] | (simp only [i64_w, i32_w]; rw [c4b0]) | skip)
      have H' := Aside0.mk H
      clear H
      go_wp2
      go_meet
      case rel => exact ⟨_, (decide (a0 > 2932896)), (by first | rfl | (simp; done) | (simp [*]; done)), H', ⟨by first | omega | exact Nat.le_refl _⟩, ⟨by (with_reducible repeat (first | refine blk_drewN ?_ _ | refine blk_drew ?_ | refine blk_alloc ?_ _)); exact BK174.out⟩, ⟨by repeat (first | (with_reducible first | exact HB.out | apply below_alloc | apply pw_below_drewN | apply below_drew1 | refine below_set ?_ GE174.out) | exact HB.out)⟩⟩
  case rest =>
    clear HC2
    try clear c2
    try clear p2
    try clear c4
    try clear c4b0
    obtain ⟨kq, x12_1, rfl, HA, HJ1, BK174, HB⟩ := hcut
    cases kq with
    | zero => exact absurd HA.out (by simp [fuseeref07_Of.j0])
    | succ kj1 =>
      have H := HA.out
      clear HA
      simp only [fuseeref07_Of.j0] at H
      by_cases c5 : x12_1 = true
      · subst c5
        have H1 : (some (0, 0, 0, 2)) = some (r1, r2, r3, r4) := by rw [if_pos rfl] at H; exact H
        clear H
        have H := H1
        clear H1
        simp only [Option.some.injEq, Prod.mk.injEq] at H
        obtain ⟨rfl, rfl, rfl, rfl⟩ := H
        have hcz6_0 : wc.cell? ⟨gb174, 0, none⟩ = some (.int .i64 0) := (blk_cell BK174.out 0).trans rfl
        have hcz6_1 : wc.cell? ⟨gb174, 1, none⟩ = some (.int .i64 0) := (blk_cell BK174.out 1).trans rfl
        have hcz6_2 : wc.cell? ⟨gb174, 2, none⟩ = some (.int .i64 0) := (blk_cell BK174.out 2).trans rfl
        have hfz6_0 := blk_frozen BK174.out 0
        have hfz6_1 := blk_frozen BK174.out 1
        have hfz6_2 := blk_frozen BK174.out 2
        go_wp2
        refine bodyPost_ret (results_ct rfl _ _ gb174 23 #[.int .i64 0, .int .i64 0, .int .i64 0] (0, 0) _ rfl (by (with_reducible repeat (first | refine blk_drewN ?_ _ | refine blk_drew ?_ | refine blk_alloc ?_ _)); refine blk_put (cs := #[.int .i64 0, .int .i64 0, .int .i64 0]) ?_ 2 _ rfl; (with_reducible repeat (first | refine blk_drewN ?_ _ | refine blk_drew ?_ | refine blk_alloc ?_ _)); refine blk_put (cs := #[.int .i64 0, .int .i64 0, .int .i64 0]) ?_ 1 _ rfl; (with_reducible repeat (first | refine blk_drewN ?_ _ | refine blk_drew ?_ | refine blk_alloc ?_ _)); refine blk_put (cs := #[.int .i64 0, .int .i64 0, .int .i64 0]) ?_ 0 _ rfl; (with_reducible repeat (first | refine blk_drewN ?_ _ | refine blk_drew ?_ | refine blk_alloc ?_ _)); exact BK174.out) Tryz.underlying23 rfl (by kernel_rfl)) rfl ?_
        exact ⟨by first | rfl | (simp [errW_none, errW_some] <;> rfl) | (simp [*, errW_none, errW_some] <;> rfl), by repeat (first | (with_reducible first | exact HB.out | apply below_alloc | apply pw_below_drewN | apply below_drew1 | refine below_set ?_ GE174.out) | exact HB.out)⟩
      · replace c5 := Bool.eq_false_iff.mpr c5
        subst c5
        have H1 : (fuseeref07_Of.l0 kj1 (wrap64 (a0 + 719162)) 1 1 1) = some (r1, r2, r3, r4) := by rw [if_neg (show ¬ (false = true) by decide)] at H; exact H
        clear H
        have H := H1
        clear H1
        have HC7 := Aside0.mk H
        clear H
        go_upto_block 0 with (first | ((with_reducible refine gate_dst (N := 5) rfl ?_); refine box_event ?hg (N := 5) ?hd (cs := #[.int .i64 0, .int .i64 0, .int .i64 0]) (t := 23) ?hr ?_; (case hd => rfl); (case hg => rfl); (case hr => first | (go_simp; done) | (go_simp; rfl)); intro gb175 hg w8 hbox hb; have n0_ := Aside0.mk (blk_below (g := gb174) (o := .cells #[.int .i64 0, .int .i64 0, .int .i64 0] 23 (0, 0)) (by (with_reducible repeat (first | refine blk_drewN ?_ _ | refine blk_drew ?_ | refine blk_alloc ?_ _)); exact BK174.out) hb); have n1_ := Aside0.mk (below_step (by repeat (first | (with_reducible first | exact HB.out | apply below_alloc | apply pw_below_drewN | apply below_drew1 | refine below_set ?_ GE174.out) | exact HB.out)) hb); have n2_ := Aside0.mk (hbox); have n3_ := Aside0.mk ((by rw [hg]; exact (below_size (by repeat (first | (with_reducible first | exact HB.out | apply below_alloc | apply pw_below_drewN | apply below_drew1 | refine below_set ?_ GE174.out) | exact HB.out))) : w.heap.size ≤ gb175)); have n4_ := Aside0.mk ((by rw [hg]; exact (below_size (by repeat (first | (with_reducible first | exact HB.out | apply below_alloc | apply pw_below_drewN | apply below_drew1 | refine below_set ?_ GE174.out) | exact HB.out))) : w.heap.size ≤ gb175)); have n5_ := Aside0.mk ((by rw [hg]; exact Nat.ne_of_lt (blk_lt (g := gb174) (o := .cells #[.int .i64 0, .int .i64 0, .int .i64 0] 23 (0, 0)) (by (with_reducible repeat (first | refine blk_drewN ?_ _ | refine blk_drew ?_ | refine blk_alloc ?_ _)); exact BK174.out)) : gb174 ≠ gb175)); have n6_ := Aside0.mk ((by rw [hg]; exact Nat.ne_of_gt (blk_lt (g := gb174) (o := .cells #[.int .i64 0, .int .i64 0, .int .i64 0] 23 (0, 0)) (by (with_reducible repeat (first | refine blk_drewN ?_ _ | refine blk_drew ?_ | refine blk_alloc ?_ _)); exact BK174.out)) : gb175 ≠ gb174)); clear BK174; clear HB; have BK174 := n0_; have HB := n1_; have BK175 := n2_; have GW175 := n3_; have GE175 := n4_; have NB174_175 := n5_; have NB175_174 := n6_; clear n0_ n1_ n2_ n3_ n4_ n5_ n6_; clear hb hbox hg; have hnb9 := NB175_174.out; have hnc9 := NB174_175.out; have hcz10_0 : w8.cell? ⟨gb175, 0, none⟩ = some (.int .i64 0) := (blk_cell BK175.out 0).trans rfl; have hcz10_1 : w8.cell? ⟨gb175, 1, none⟩ = some (.int .i64 0) := (blk_cell BK175.out 1).trans rfl; have hcz10_2 : w8.cell? ⟨gb175, 2, none⟩ = some (.int .i64 0) := (blk_cell BK175.out 2).trans rfl; have hfz10_0 := blk_frozen BK175.out 0; have hfz10_1 := blk_frozen BK175.out 1; have hfz10_2 := blk_frozen BK175.out 2))
        (try simp only [Act.put, List.setIfInBounds_toArray, List.set_cons_zero, List.set_cons_succ])
        go_cut [4] (fun v4 wc => ∃ (kq : Nat) (x4_6 : Int) (x176000_6 : Int), v4 = .int .i64 x4_6 ∧ Aside0 (fuseeref07_Of.j2 kq x4_6 x176000_6 1 1 = some (r1, r2, r3, r4)) ∧ Aside0 (kq ≤ kj1) ∧ Aside0 (wc.heap[gb174]? = some (.cells #[.int .i64 0, .int .i64 0, .int .i64 0] 23 (0, 0))) ∧ Aside0 (wc.heap[gb175]? = some (.cells #[.int .i64 x176000_6, .int .i64 1, .int .i64 1] 23 (0, 0))) ∧ Aside0 (Below w.heap.size w wc))
        case first =>
          have H := HC7.out
          clear HC7
          have H' := Aside0.mk H
          clear H
          go_wp2
          go_loopg [4] kj1 (fun kq v4 w' => ∃ (x4_2 : Int) (x176000_2 : Int), v4 = .int .i64 x4_2 ∧ Aside0 (fuseeref07_Of.l0 kq x4_2 x176000_2 1 1 = some (r1, r2, r3, r4)) ∧ Aside0 (kq ≤ kj1) ∧ Aside0 (w'.heap[gb174]? = some (.cells #[.int .i64 0, .int .i64 0, .int .i64 0] 23 (0, 0))) ∧ Aside0 (w'.heap[gb175]? = some (.cells #[.int .i64 x176000_2, .int .i64 1, .int .i64 1] 23 (0, 0))) ∧ Aside0 (Below w.heap.size w w'))
          case atStart => exact ⟨(wrap64 (a0 + 719162)), (1), (by first | rfl | (simp; done) | (simp [*]; done)), H', ⟨Nat.le_refl _⟩, ⟨by (with_reducible repeat (first | refine blk_drewN ?_ _ | refine blk_drew ?_ | refine blk_alloc ?_ _)); refine blk_far ?_ NB174_175.out _; (with_reducible repeat (first | refine blk_drewN ?_ _ | refine blk_drew ?_ | refine blk_alloc ?_ _)); refine blk_far ?_ NB174_175.out _; (with_reducible repeat (first | refine blk_drewN ?_ _ | refine blk_drew ?_ | refine blk_alloc ?_ _)); refine blk_far ?_ NB174_175.out _; (with_reducible repeat (first | refine blk_drewN ?_ _ | refine blk_drew ?_ | refine blk_alloc ?_ _)); exact BK174.out⟩, ⟨by (with_reducible repeat (first | refine blk_drewN ?_ _ | refine blk_drew ?_ | refine blk_alloc ?_ _)); refine blk_put (cs := #[.int .i64 1, .int .i64 1, .int .i64 0]) ?_ 2 _ rfl; (with_reducible repeat (first | refine blk_drewN ?_ _ | refine blk_drew ?_ | refine blk_alloc ?_ _)); refine blk_put (cs := #[.int .i64 1, .int .i64 0, .int .i64 0]) ?_ 1 _ rfl; (with_reducible repeat (first | refine blk_drewN ?_ _ | refine blk_drew ?_ | refine blk_alloc ?_ _)); refine blk_put (cs := #[.int .i64 0, .int .i64 0, .int .i64 0]) ?_ 0 _ rfl; (with_reducible repeat (first | refine blk_drewN ?_ _ | refine blk_drew ?_ | refine blk_alloc ?_ _)); exact BK175.out⟩, ⟨by repeat (first | (with_reducible first | exact HB.out | apply below_alloc | apply pw_below_drewN | apply below_drew1 | refine below_set ?_ GE174.out | refine below_set ?_ GE175.out) | exact HB.out)⟩⟩
          case round =>
            clear H'
            try clear c2
            try clear p2
            try clear c4
            try clear c4b0
            try clear c5
            try clear p6
            try clear c9
            try clear hcz10_0
            try clear hcz10_1
            try clear hcz10_2
            try clear hcz6_0
            try clear hcz6_1
            try clear hcz6_2
            try clear hfz10_0
            try clear hfz10_1
            try clear hfz10_2
            try clear hfz6_0
            try clear hfz6_1
            try clear hfz6_2
            try clear p2
            obtain ⟨x4_2, x176000_2, rfl, HA, HK2, BK174, BK175, HB⟩ := hrel
            cases gk with
            | zero => exact absurd HA.out (by simp [fuseeref07_Of.l0])
            | succ k2 =>
              have H := HA.out
              clear HA
              simp only [fuseeref07_Of.l0] at H
              replace H := Option.bind_eq_some_iff.mp H
              obtain ⟨t176, A110, H⟩ := H
              try dsimp only at H
              have A11 := Aside0.mk A110
              clear A110
              by_cases c12 : t176 = true
              · subst c12
                have H1 : (if x4_2 < 366 then (fuseeref07_Of.j2 k2 x4_2 x176000_2 1 1) else (fuseeref07_Of.l0 k2 (wrap64 (x4_2 - 366)) (wrap64 (x176000_2 + 1)) 1 1)) = some (r1, r2, r3, r4) := by rw [if_pos rfl] at H; exact H
                clear H
                have H := H1
                clear H1
                by_cases c13 : x4_2 < 366
                · rw [if_pos c13] at H
                  have c13b0 : decide (x4_2 < 366) = true := decide_eq_true c13
                  clear c13
                  (first | rw [c13b0] | (simp only [i64_w, i32_w]; rw [c13b0]) | skip)
                  have H' := Aside0.mk H
                  clear H
                  have hnb14 := NB175_174.out
                  have hnc14 := NB174_175.out
                  have hcz15_0 : wr.cell? ⟨gb175, 0, none⟩ = some (.int .i64 x176000_2) := (blk_cell BK175.out 0).trans rfl
                  have hcz15_1 : wr.cell? ⟨gb175, 1, none⟩ = some (.int .i64 1) := (blk_cell BK175.out 1).trans rfl
                  have hcz15_2 : wr.cell? ⟨gb175, 2, none⟩ = some (.int .i64 1) := (blk_cell BK175.out 2).trans rfl
                  have hfz15_0 := blk_frozen BK175.out 0
                  have hfz15_1 := blk_frozen BK175.out 1
                  have hfz15_2 := blk_frozen BK175.out 2
                  go_wp2_with (first | ((with_reducible refine gate_callee (f := 21) rfl ?_); refine goesL_ (some 19) rfl rfl Tryz.func21 (by kernel_rfl) rfl #[.int .i64 x176000_2] rfl (by (try simp only [List.map_toArray, List.map_cons, List.map_nil]); first | done | rfl | (simp only [List.length_drop, List.length_take]; rfl)) ?_; (with_reducible refine (fuseeref07_Leap.calls x176000_2 true _ A11.out).mono ?_); rintro e w' ⟨rfl, ⟨nd, rfl⟩⟩; refine ⟨_, rfl, ?_⟩))
                  go_meet
                  case rel => exact ⟨_, (x4_2), (x176000_2), (by first | rfl | (simp; done) | (simp [*]; done)), H', ⟨by have := HJ1.out; have := HK2.out; first | omega | exact Nat.le_refl _⟩, ⟨by (with_reducible repeat (first | refine blk_drewN ?_ _ | refine blk_drew ?_ | refine blk_alloc ?_ _)); exact BK174.out⟩, ⟨by (with_reducible repeat (first | refine blk_drewN ?_ _ | refine blk_drew ?_ | refine blk_alloc ?_ _)); exact BK175.out⟩, ⟨by repeat (first | (with_reducible first | exact HB.out | apply below_alloc | apply pw_below_drewN | apply below_drew1 | refine below_set ?_ GE174.out | refine below_set ?_ GE175.out) | exact HB.out)⟩⟩
                · rw [if_neg c13] at H
                  have c13b0 : decide (x4_2 < 366) = false := decide_eq_false c13
                  clear c13
                  (first | rw [c13b0] | (simp only [i64_w, i32_w]; rw [c13b0]) | skip)
                  have H' := Aside0.mk H
                  clear H
                  have hnb16 := NB175_174.out
                  have hnc16 := NB174_175.out
                  have hcz17_0 : wr.cell? ⟨gb175, 0, none⟩ = some (.int .i64 x176000_2) := (blk_cell BK175.out 0).trans rfl
                  have hcz17_1 : wr.cell? ⟨gb175, 1, none⟩ = some (.int .i64 1) := (blk_cell BK175.out 1).trans rfl
                  have hcz17_2 : wr.cell? ⟨gb175, 2, none⟩ = some (.int .i64 1) := (blk_cell BK175.out 2).trans rfl
                  have hfz17_0 := blk_frozen BK175.out 0
                  have hfz17_1 := blk_frozen BK175.out 1
                  have hfz17_2 := blk_frozen BK175.out 2
                  go_wp2_with (first | ((with_reducible refine gate_callee (f := 21) rfl ?_); refine goesL_ (some 19) rfl rfl Tryz.func21 (by kernel_rfl) rfl #[.int .i64 x176000_2] rfl (by (try simp only [List.map_toArray, List.map_cons, List.map_nil]); first | done | rfl | (simp only [List.length_drop, List.length_take]; rfl)) ?_; (with_reducible refine (fuseeref07_Leap.calls x176000_2 true _ A11.out).mono ?_); rintro e w' ⟨rfl, ⟨nd, rfl⟩⟩; refine ⟨_, rfl, ?_⟩; (try (rw [drewN_self wr]; generalize hq_ : World.drewN wr _ = wr; have n0_ : Aside0 (wr.heap[gb174]? = some (.cells #[.int .i64 0, .int .i64 0, .int .i64 0] 23 (0, 0))) := ⟨by rw [← hq_]; exact (by (with_reducible repeat (first | refine blk_drewN ?_ _ | refine blk_drew ?_ | refine blk_alloc ?_ _)); exact BK174.out)⟩; have n1_ : Aside0 (wr.heap[gb175]? = some (.cells #[.int .i64 x176000_2, .int .i64 1, .int .i64 1] 23 (0, 0))) := ⟨by rw [← hq_]; exact (by (with_reducible repeat (first | refine blk_drewN ?_ _ | refine blk_drew ?_ | refine blk_alloc ?_ _)); exact BK175.out)⟩; have n2_ : Aside0 (Below w.heap.size w wr) := ⟨by rw [← hq_]; exact (by repeat (first | (with_reducible first | exact HB.out | apply below_alloc | apply pw_below_drewN | apply below_drew1 | refine below_set ?_ GE174.out | refine below_set ?_ GE175.out) | exact HB.out))⟩; clear BK174 BK175 HB hq_; have BK174 := n0_; have BK175 := n1_; have HB := n2_; clear n0_ n1_ n2_; have hczq_BK174_0 : wr.cell? ⟨gb174, 0, none⟩ = some (.int .i64 0) := (blk_cell BK174.out 0).trans rfl; have hfzq_BK174_0 := blk_frozen BK174.out 0; have hczq_BK174_1 : wr.cell? ⟨gb174, 1, none⟩ = some (.int .i64 0) := (blk_cell BK174.out 1).trans rfl; have hfzq_BK174_1 := blk_frozen BK174.out 1; have hczq_BK174_2 : wr.cell? ⟨gb174, 2, none⟩ = some (.int .i64 0) := (blk_cell BK174.out 2).trans rfl; have hfzq_BK174_2 := blk_frozen BK174.out 2; have hczq_BK175_0 : wr.cell? ⟨gb175, 0, none⟩ = some (.int .i64 x176000_2) := (blk_cell BK175.out 0).trans rfl; have hfzq_BK175_0 := blk_frozen BK175.out 0; have hczq_BK175_1 : wr.cell? ⟨gb175, 1, none⟩ = some (.int .i64 1) := (blk_cell BK175.out 1).trans rfl; have hfzq_BK175_1 := blk_frozen BK175.out 1; have hczq_BK175_2 : wr.cell? ⟨gb175, 2, none⟩ = some (.int .i64 1) := (blk_cell BK175.out 2).trans rfl; have hfzq_BK175_2 := blk_frozen BK175.out 2))))
                  go_roundg k2
                  case measure => have := HJ1.out; have := HK2.out; omega
                  case rel => exact ⟨(wrap64 (x4_2 - 366)), (wrap64 (x176000_2 + 1)), (by first | rfl | (simp; done) | (simp [*]; done)), H', ⟨by have := HJ1.out; have := HK2.out; omega⟩, ⟨by (with_reducible repeat (first | refine blk_drewN ?_ _ | refine blk_drew ?_ | refine blk_alloc ?_ _)); refine blk_far ?_ NB174_175.out _; (with_reducible repeat (first | refine blk_drewN ?_ _ | refine blk_drew ?_ | refine blk_alloc ?_ _)); exact BK174.out⟩, ⟨by (with_reducible repeat (first | refine blk_drewN ?_ _ | refine blk_drew ?_ | refine blk_alloc ?_ _)); refine blk_put (cs := #[.int .i64 x176000_2, .int .i64 1, .int .i64 1]) ?_ 0 _ rfl; (with_reducible repeat (first | refine blk_drewN ?_ _ | refine blk_drew ?_ | refine blk_alloc ?_ _)); exact BK175.out⟩, ⟨by repeat (first | (with_reducible first | exact HB.out | apply below_alloc | apply pw_below_drewN | apply below_drew1 | refine below_set ?_ GE174.out | refine below_set ?_ GE175.out) | exact HB.out)⟩⟩
              · replace c12 := Bool.eq_false_iff.mpr c12
                subst c12
                have H1 : (if x4_2 < 365 then (fuseeref07_Of.j2 k2 x4_2 x176000_2 1 1) else (fuseeref07_Of.l0 k2 (wrap64 (x4_2 - 365)) (wrap64 (x176000_2 + 1)) 1 1)) = some (r1, r2, r3, r4) := by rw [if_neg (show ¬ (false = true) by decide)] at H; exact H
                clear H
                have H := H1
                clear H1
                by_cases c18 : x4_2 < 365
                · rw [if_pos c18] at H
                  have c18b0 : decide (x4_2 < 365) = true := decide_eq_true c18
                  clear c18
                  have H' := Aside0.mk H
                  clear H
                  have hnb19 := NB175_174.out
                  have hnc19 := NB174_175.out
                  have hcz20_0 : wr.cell? ⟨gb175, 0, none⟩ = some (.int .i64 x176000_2) := (blk_cell BK175.out 0).trans rfl
                  have hcz20_1 : wr.cell? ⟨gb175, 1, none⟩ = some (.int .i64 1) := (blk_cell BK175.out 1).trans rfl
                  have hcz20_2 : wr.cell? ⟨gb175, 2, none⟩ = some (.int .i64 1) := (blk_cell BK175.out 2).trans rfl
                  have hfz20_0 := blk_frozen BK175.out 0
                  have hfz20_1 := blk_frozen BK175.out 1
                  have hfz20_2 := blk_frozen BK175.out 2
                  go_wp2_with (first | ((with_reducible refine gate_callee (f := 21) rfl ?_); refine goesL_ (some 19) rfl rfl Tryz.func21 (by kernel_rfl) rfl #[.int .i64 x176000_2] rfl (by (try simp only [List.map_toArray, List.map_cons, List.map_nil]); first | done | rfl | (simp only [List.length_drop, List.length_take]; rfl)) ?_; (with_reducible refine (fuseeref07_Leap.calls x176000_2 false _ A11.out).mono ?_); rintro e w' ⟨rfl, ⟨nd, rfl⟩⟩; refine ⟨_, rfl, ?_⟩))
                  go_meet
                  case rel => exact ⟨_, (x4_2), (x176000_2), (by first | rfl | (simp; done) | (simp [*]; done)), H', ⟨by have := HJ1.out; have := HK2.out; first | omega | exact Nat.le_refl _⟩, ⟨by (with_reducible repeat (first | refine blk_drewN ?_ _ | refine blk_drew ?_ | refine blk_alloc ?_ _)); exact BK174.out⟩, ⟨by (with_reducible repeat (first | refine blk_drewN ?_ _ | refine blk_drew ?_ | refine blk_alloc ?_ _)); exact BK175.out⟩, ⟨by repeat (first | (with_reducible first | exact HB.out | apply below_alloc | apply pw_below_drewN | apply below_drew1 | refine below_set ?_ GE174.out | refine below_set ?_ GE175.out) | exact HB.out)⟩⟩
                · rw [if_neg c18] at H
                  have c18b0 : decide (x4_2 < 365) = false := decide_eq_false c18
                  clear c18
                  have H' := Aside0.mk H
                  clear H
                  have hnb21 := NB175_174.out
                  have hnc21 := NB174_175.out
                  have hcz22_0 : wr.cell? ⟨gb175, 0, none⟩ = some (.int .i64 x176000_2) := (blk_cell BK175.out 0).trans rfl
                  have hcz22_1 : wr.cell? ⟨gb175, 1, none⟩ = some (.int .i64 1) := (blk_cell BK175.out 1).trans rfl
                  have hcz22_2 : wr.cell? ⟨gb175, 2, none⟩ = some (.int .i64 1) := (blk_cell BK175.out 2).trans rfl
                  have hfz22_0 := blk_frozen BK175.out 0
                  have hfz22_1 := blk_frozen BK175.out 1
                  have hfz22_2 := blk_frozen BK175.out 2
                  go_wp2_with (first | ((with_reducible refine gate_callee (f := 21) rfl ?_); refine goesL_ (some 19) rfl rfl Tryz.func21 (by kernel_rfl) rfl #[.int .i64 x176000_2] rfl (by (try simp only [List.map_toArray, List.map_cons, List.map_nil]); first | done | rfl | (simp only [List.length_drop, List.length_take]; rfl)) ?_; (with_reducible refine (fuseeref07_Leap.calls x176000_2 false _ A11.out).mono ?_); rintro e w' ⟨rfl, ⟨nd, rfl⟩⟩; refine ⟨_, rfl, ?_⟩; (try (rw [drewN_self wr]; generalize hq_ : World.drewN wr _ = wr; have n0_ : Aside0 (wr.heap[gb174]? = some (.cells #[.int .i64 0, .int .i64 0, .int .i64 0] 23 (0, 0))) := ⟨by rw [← hq_]; exact (by (with_reducible repeat (first | refine blk_drewN ?_ _ | refine blk_drew ?_ | refine blk_alloc ?_ _)); exact BK174.out)⟩; have n1_ : Aside0 (wr.heap[gb175]? = some (.cells #[.int .i64 x176000_2, .int .i64 1, .int .i64 1] 23 (0, 0))) := ⟨by rw [← hq_]; exact (by (with_reducible repeat (first | refine blk_drewN ?_ _ | refine blk_drew ?_ | refine blk_alloc ?_ _)); exact BK175.out)⟩; have n2_ : Aside0 (Below w.heap.size w wr) := ⟨by rw [← hq_]; exact (by repeat (first | (with_reducible first | exact HB.out | apply below_alloc | apply pw_below_drewN | apply below_drew1 | refine below_set ?_ GE174.out | refine below_set ?_ GE175.out) | exact HB.out))⟩; clear BK174 BK175 HB hq_; have BK174 := n0_; have BK175 := n1_; have HB := n2_; clear n0_ n1_ n2_; have hczq_BK174_0 : wr.cell? ⟨gb174, 0, none⟩ = some (.int .i64 0) := (blk_cell BK174.out 0).trans rfl; have hfzq_BK174_0 := blk_frozen BK174.out 0; have hczq_BK174_1 : wr.cell? ⟨gb174, 1, none⟩ = some (.int .i64 0) := (blk_cell BK174.out 1).trans rfl; have hfzq_BK174_1 := blk_frozen BK174.out 1; have hczq_BK174_2 : wr.cell? ⟨gb174, 2, none⟩ = some (.int .i64 0) := (blk_cell BK174.out 2).trans rfl; have hfzq_BK174_2 := blk_frozen BK174.out 2; have hczq_BK175_0 : wr.cell? ⟨gb175, 0, none⟩ = some (.int .i64 x176000_2) := (blk_cell BK175.out 0).trans rfl; have hfzq_BK175_0 := blk_frozen BK175.out 0; have hczq_BK175_1 : wr.cell? ⟨gb175, 1, none⟩ = some (.int .i64 1) := (blk_cell BK175.out 1).trans rfl; have hfzq_BK175_1 := blk_frozen BK175.out 1; have hczq_BK175_2 : wr.cell? ⟨gb175, 2, none⟩ = some (.int .i64 1) := (blk_cell BK175.out 2).trans rfl; have hfzq_BK175_2 := blk_frozen BK175.out 2))))
                  go_roundg k2
                  case measure => have := HJ1.out; have := HK2.out; omega
                  case rel => exact ⟨(wrap64 (x4_2 - 365)), (wrap64 (x176000_2 + 1)), (by first | rfl | (simp; done) | (simp [*]; done)), H', ⟨by have := HJ1.out; have := HK2.out; omega⟩, ⟨by (with_reducible repeat (first | refine blk_drewN ?_ _ | refine blk_drew ?_ | refine blk_alloc ?_ _)); refine blk_far ?_ NB174_175.out _; (with_reducible repeat (first | refine blk_drewN ?_ _ | refine blk_drew ?_ | refine blk_alloc ?_ _)); exact BK174.out⟩, ⟨by (with_reducible repeat (first | refine blk_drewN ?_ _ | refine blk_drew ?_ | refine blk_alloc ?_ _)); refine blk_put (cs := #[.int .i64 x176000_2, .int .i64 1, .int .i64 1]) ?_ 0 _ rfl; (with_reducible repeat (first | refine blk_drewN ?_ _ | refine blk_drew ?_ | refine blk_alloc ?_ _)); exact BK175.out⟩, ⟨by repeat (first | (with_reducible first | exact HB.out | apply below_alloc | apply pw_below_drewN | apply below_drew1 | refine below_set ?_ GE174.out | refine below_set ?_ GE175.out) | exact HB.out)⟩⟩
        case rest =>
          clear HC7
          try clear c1
          try clear c2
          try clear p2
          try clear c4
          try clear c4b0
          try clear c5
          try clear p6
          try clear c9
          try clear c12
          try clear c13
          try clear c13b0
          try clear c14
          try clear c16
          try clear c18
          try clear c18b0
          try clear c19
          try clear c21
          try clear hcz10_0
          try clear hcz10_1
          try clear hcz10_2
          try clear hcz15_0
          try clear hcz15_1
          try clear hcz15_2
          try clear hcz17_0
          try clear hcz17_1
          try clear hcz17_2
          try clear hcz20_0
          try clear hcz20_1
          try clear hcz20_2
          try clear hcz22_0
          try clear hcz22_1
          try clear hcz22_2
          try clear hcz6_0
          try clear hcz6_1
          try clear hcz6_2
          try clear hfz10_0
          try clear hfz10_1
          try clear hfz10_2
          try clear hfz15_0
          try clear hfz15_1
          try clear hfz15_2
          try clear hfz17_0
          try clear hfz17_1
          try clear hfz17_2
          try clear hfz20_0
          try clear hfz20_1
          try clear hfz20_2
          try clear hfz22_0
          try clear hfz22_1
          try clear hfz22_2
          try clear hfz6_0
          try clear hfz6_1
          try clear hfz6_2
          try clear p2
          try clear p6
          obtain ⟨kq, x4_6, x176000_6, rfl, HA, HJ6, BK174, BK175, HB⟩ := hcut
          cases kq with
          | zero => exact absurd HA.out (by simp [fuseeref07_Of.j2])
          | succ kj6 =>
            have H := HA.out
            clear HA
            simp only [fuseeref07_Of.j2] at H
            have H' := Aside0.mk H
            clear H
            go_wp2
            go_loopg [4] kj6 (fun kq v4 w' => ∃ (x4_3 : Int) (x176001_3 : Int), v4 = .int .i64 x4_3 ∧ Aside0 (fuseeref07_Of.l1 kq x4_3 x176000_6 x176001_3 1 = some (r1, r2, r3, r4)) ∧ Aside0 (kq ≤ kj6) ∧ Aside0 (w'.heap[gb174]? = some (.cells #[.int .i64 0, .int .i64 0, .int .i64 0] 23 (0, 0))) ∧ Aside0 (w'.heap[gb175]? = some (.cells #[.int .i64 x176000_6, .int .i64 x176001_3, .int .i64 1] 23 (0, 0))) ∧ Aside0 (Below w.heap.size w w'))
            case atStart => exact ⟨(x4_6), (1), (by first | rfl | (simp; done) | (simp [*]; done)), H', ⟨Nat.le_refl _⟩, ⟨by (with_reducible repeat (first | refine blk_drewN ?_ _ | refine blk_drew ?_ | refine blk_alloc ?_ _)); exact BK174.out⟩, ⟨by (with_reducible repeat (first | refine blk_drewN ?_ _ | refine blk_drew ?_ | refine blk_alloc ?_ _)); exact BK175.out⟩, ⟨by repeat (first | (with_reducible first | exact HB.out | apply below_alloc | apply pw_below_drewN | apply below_drew1 | refine below_set ?_ GE174.out | refine below_set ?_ GE175.out) | exact HB.out)⟩⟩
            case round =>
              clear H'
              try clear c1
              try clear c2
              try clear p2
              try clear c4
              try clear c4b0
              try clear c5
              try clear p6
              try clear c9
              try clear c12
              try clear c13
              try clear c13b0
              try clear c14
              try clear c16
              try clear c18
              try clear c18b0
              try clear c19
              try clear c21
              try clear hcz10_0
              try clear hcz10_1
              try clear hcz10_2
              try clear hcz15_0
              try clear hcz15_1
              try clear hcz15_2
              try clear hcz17_0
              try clear hcz17_1
              try clear hcz17_2
              try clear hcz20_0
              try clear hcz20_1
              try clear hcz20_2
              try clear hcz22_0
              try clear hcz22_1
              try clear hcz22_2
              try clear hcz6_0
              try clear hcz6_1
              try clear hcz6_2
              try clear hfz10_0
              try clear hfz10_1
              try clear hfz10_2
              try clear hfz15_0
              try clear hfz15_1
              try clear hfz15_2
              try clear hfz17_0
              try clear hfz17_1
              try clear hfz17_2
              try clear hfz20_0
              try clear hfz20_1
              try clear hfz20_2
              try clear hfz22_0
              try clear hfz22_1
              try clear hfz22_2
              try clear hfz6_0
              try clear hfz6_1
              try clear hfz6_2
              try clear p2
              try clear p6
              obtain ⟨x4_3, x176001_3, rfl, HA, HK3, BK174, BK175, HB⟩ := hrel
              cases gk with
              | zero => exact absurd HA.out (by simp [fuseeref07_Of.l1])
              | succ k3 =>
                have H := HA.out
                clear HA
                simp only [fuseeref07_Of.l1] at H
                replace H := Option.bind_eq_some_iff.mp H
                obtain ⟨t177, A230, H⟩ := H
                try dsimp only at H
                have A23 := Aside0.mk A230
                clear A230
                by_cases c24 : x4_3 ≥ t177
                · rw [if_pos c24] at H
                  have c24b0 : decide (t177 ≤ x4_3) = true := decide_eq_true c24
                  clear c24
                  replace H := Option.bind_eq_some_iff.mp H
                  obtain ⟨t178, A250, H⟩ := H
                  try dsimp only at H
                  have A25 := Aside0.mk A250
                  clear A250
                  have H' := Aside0.mk H
                  clear H
                  have hnb26 := NB175_174.out
                  have hnc26 := NB174_175.out
                  have hcz27_0 : wr.cell? ⟨gb175, 0, none⟩ = some (.int .i64 x176000_6) := (blk_cell BK175.out 0).trans rfl
                  have hcz27_1 : wr.cell? ⟨gb175, 1, none⟩ = some (.int .i64 x176001_3) := (blk_cell BK175.out 1).trans rfl
                  have hcz27_2 : wr.cell? ⟨gb175, 2, none⟩ = some (.int .i64 1) := (blk_cell BK175.out 2).trans rfl
                  have hfz27_0 := blk_frozen BK175.out 0
                  have hfz27_1 := blk_frozen BK175.out 1
                  have hfz27_2 := blk_frozen BK175.out 2
                  go_wp2_with (first | ((with_reducible refine gate_callee (f := 19) rfl ?_); refine goesL_ (some 35) rfl rfl Tryz.func19 (by kernel_rfl) rfl #[.int .i64 x176000_6, .int .i64 x176001_3] rfl (by (try simp only [List.map_toArray, List.map_cons, List.map_nil]); first | done | rfl | (simp only [List.length_drop, List.length_take]; rfl)) ?_; (with_reducible refine (fuseeref07_Month.calls k3 x176000_6 x176001_3 t177 _ A23.out).mono ?_); rintro e w28 ⟨rfl, hb⟩; refine ⟨_, rfl, ?_⟩; have n0_ := Aside0.mk (blk_below (g := gb174) (o := .cells #[.int .i64 0, .int .i64 0, .int .i64 0] 23 (0, 0)) (by (with_reducible repeat (first | refine blk_drewN ?_ _ | refine blk_drew ?_ | refine blk_alloc ?_ _)); exact BK174.out) hb); have n1_ := Aside0.mk (blk_below (g := gb175) (o := .cells #[.int .i64 x176000_6, .int .i64 x176001_3, .int .i64 1] 23 (0, 0)) (by (with_reducible repeat (first | refine blk_drewN ?_ _ | refine blk_drew ?_ | refine blk_alloc ?_ _)); exact BK175.out) hb); have n2_ := Aside0.mk (below_step (by repeat (first | (with_reducible first | exact HB.out | apply below_alloc | apply pw_below_drewN | apply below_drew1 | refine below_set ?_ GE174.out | refine below_set ?_ GE175.out) | exact HB.out)) hb); clear BK174; clear BK175; clear HB; have BK174 := n0_; have BK175 := n1_; have HB := n2_; clear n0_ n1_ n2_; (try clear hb); (try clear hb2); (try clear hk); (try clear hi); have hcz29_0 : w28.cell? ⟨gb175, 0, none⟩ = some (.int .i64 x176000_6) := (blk_cell BK175.out 0).trans rfl; have hcz29_1 : w28.cell? ⟨gb175, 1, none⟩ = some (.int .i64 x176001_3) := (blk_cell BK175.out 1).trans rfl; have hcz29_2 : w28.cell? ⟨gb175, 2, none⟩ = some (.int .i64 1) := (blk_cell BK175.out 2).trans rfl; have hfz29_0 := blk_frozen BK175.out 0; have hfz29_1 := blk_frozen BK175.out 1; have hfz29_2 := blk_frozen BK175.out 2) | ((with_reducible refine gate_callee (f := 19) rfl ?_); refine goesL_ (some 42) rfl rfl Tryz.func19 (by kernel_rfl) rfl #[.int .i64 x176000_6, .int .i64 x176001_3] rfl (by (try simp only [List.map_toArray, List.map_cons, List.map_nil]); first | done | rfl | (simp only [List.length_drop, List.length_take]; rfl)) ?_; (with_reducible refine (fuseeref07_Month.calls k3 x176000_6 x176001_3 t178 _ A25.out).mono ?_); rintro e w30 ⟨rfl, hb⟩; refine ⟨_, rfl, ?_⟩; have n0_ := Aside0.mk (blk_below (g := gb174) (o := .cells #[.int .i64 0, .int .i64 0, .int .i64 0] 23 (0, 0)) (by (with_reducible repeat (first | refine blk_drewN ?_ _ | refine blk_drew ?_ | refine blk_alloc ?_ _)); exact BK174.out) hb); have n1_ := Aside0.mk (blk_below (g := gb175) (o := .cells #[.int .i64 x176000_6, .int .i64 x176001_3, .int .i64 1] 23 (0, 0)) (by (with_reducible repeat (first | refine blk_drewN ?_ _ | refine blk_drew ?_ | refine blk_alloc ?_ _)); exact BK175.out) hb); have n2_ := Aside0.mk (below_step (by repeat (first | (with_reducible first | exact HB.out | apply below_alloc | apply pw_below_drewN | apply below_drew1 | refine below_set ?_ GE174.out | refine below_set ?_ GE175.out) | exact HB.out)) hb); clear BK174; clear BK175; clear HB; have BK174 := n0_; have BK175 := n1_; have HB := n2_; clear n0_ n1_ n2_; (try clear hb); (try clear hb2); (try clear hk); (try clear hi); have hcz31_0 : w30.cell? ⟨gb175, 0, none⟩ = some (.int .i64 x176000_6) := (blk_cell BK175.out 0).trans rfl; have hcz31_1 : w30.cell? ⟨gb175, 1, none⟩ = some (.int .i64 x176001_3) := (blk_cell BK175.out 1).trans rfl; have hcz31_2 : w30.cell? ⟨gb175, 2, none⟩ = some (.int .i64 1) := (blk_cell BK175.out 2).trans rfl; have hfz31_0 := blk_frozen BK175.out 0; have hfz31_1 := blk_frozen BK175.out 1; have hfz31_2 := blk_frozen BK175.out 2))
                  go_roundg k3
                  case measure => have := HJ1.out; have := HJ6.out; have := HK3.out; omega
                  case rel => exact ⟨(wrap64 (x4_3 - t178)), (wrap64 (x176001_3 + 1)), (by first | rfl | (simp; done) | (simp [*]; done)), H', ⟨by have := HJ1.out; have := HJ6.out; have := HK3.out; omega⟩, ⟨by (with_reducible repeat (first | refine blk_drewN ?_ _ | refine blk_drew ?_ | refine blk_alloc ?_ _)); refine blk_far ?_ NB174_175.out _; (with_reducible repeat (first | refine blk_drewN ?_ _ | refine blk_drew ?_ | refine blk_alloc ?_ _)); exact BK174.out⟩, ⟨by (with_reducible repeat (first | refine blk_drewN ?_ _ | refine blk_drew ?_ | refine blk_alloc ?_ _)); refine blk_put (cs := #[.int .i64 x176000_6, .int .i64 x176001_3, .int .i64 1]) ?_ 1 _ rfl; (with_reducible repeat (first | refine blk_drewN ?_ _ | refine blk_drew ?_ | refine blk_alloc ?_ _)); exact BK175.out⟩, ⟨by repeat (first | (with_reducible first | exact HB.out | apply below_alloc | apply pw_below_drewN | apply below_drew1 | refine below_set ?_ GE174.out | refine below_set ?_ GE175.out) | exact HB.out)⟩⟩
                · rw [if_neg c24] at H
                  have c24b0 : decide (t177 ≤ x4_3) = false := decide_eq_false c24
                  clear c24
                  simp only [Option.some.injEq, Prod.mk.injEq] at H
                  obtain ⟨rfl, rfl, rfl, rfl⟩ := H
                  have hnb32 := NB175_174.out
                  have hnc32 := NB174_175.out
                  have hcz33_0 : wr.cell? ⟨gb175, 0, none⟩ = some (.int .i64 x176000_6) := (blk_cell BK175.out 0).trans rfl
                  have hcz33_1 : wr.cell? ⟨gb175, 1, none⟩ = some (.int .i64 x176001_3) := (blk_cell BK175.out 1).trans rfl
                  have hcz33_2 : wr.cell? ⟨gb175, 2, none⟩ = some (.int .i64 1) := (blk_cell BK175.out 2).trans rfl
                  have hfz33_0 := blk_frozen BK175.out 0
                  have hfz33_1 := blk_frozen BK175.out 1
                  have hfz33_2 := blk_frozen BK175.out 2
                  go_wp2_with (first | ((with_reducible refine gate_callee (f := 19) rfl ?_); refine goesL_ (some 35) rfl rfl Tryz.func19 (by kernel_rfl) rfl #[.int .i64 x176000_6, .int .i64 x176001_3] rfl (by (try simp only [List.map_toArray, List.map_cons, List.map_nil]); first | done | rfl | (simp only [List.length_drop, List.length_take]; rfl)) ?_; (with_reducible refine (fuseeref07_Month.calls k3 x176000_6 x176001_3 t177 _ A23.out).mono ?_); rintro e w34 ⟨rfl, hb⟩; refine ⟨_, rfl, ?_⟩; have n0_ := Aside0.mk (blk_below (g := gb174) (o := .cells #[.int .i64 0, .int .i64 0, .int .i64 0] 23 (0, 0)) (by (with_reducible repeat (first | refine blk_drewN ?_ _ | refine blk_drew ?_ | refine blk_alloc ?_ _)); exact BK174.out) hb); have n1_ := Aside0.mk (blk_below (g := gb175) (o := .cells #[.int .i64 x176000_6, .int .i64 x176001_3, .int .i64 1] 23 (0, 0)) (by (with_reducible repeat (first | refine blk_drewN ?_ _ | refine blk_drew ?_ | refine blk_alloc ?_ _)); exact BK175.out) hb); have n2_ := Aside0.mk (below_step (by repeat (first | (with_reducible first | exact HB.out | apply below_alloc | apply pw_below_drewN | apply below_drew1 | refine below_set ?_ GE174.out | refine below_set ?_ GE175.out) | exact HB.out)) hb); clear BK174; clear BK175; clear HB; have BK174 := n0_; have BK175 := n1_; have HB := n2_; clear n0_ n1_ n2_; (try clear hb); (try clear hb2); (try clear hk); (try clear hi); have hcz35_0 : w34.cell? ⟨gb175, 0, none⟩ = some (.int .i64 x176000_6) := (blk_cell BK175.out 0).trans rfl; have hcz35_1 : w34.cell? ⟨gb175, 1, none⟩ = some (.int .i64 x176001_3) := (blk_cell BK175.out 1).trans rfl; have hcz35_2 : w34.cell? ⟨gb175, 2, none⟩ = some (.int .i64 1) := (blk_cell BK175.out 2).trans rfl; have hfz35_0 := blk_frozen BK175.out 0; have hfz35_1 := blk_frozen BK175.out 1; have hfz35_2 := blk_frozen BK175.out 2; have hcz36_0 : w34.cell? ⟨gb174, 0, none⟩ = some (.int .i64 0) := (blk_cell BK174.out 0).trans rfl; have hcz36_1 : w34.cell? ⟨gb174, 1, none⟩ = some (.int .i64 0) := (blk_cell BK174.out 1).trans rfl; have hcz36_2 : w34.cell? ⟨gb174, 2, none⟩ = some (.int .i64 0) := (blk_cell BK174.out 2).trans rfl; have hfz36_0 := blk_frozen BK174.out 0; have hfz36_1 := blk_frozen BK174.out 1; have hfz36_2 := blk_frozen BK174.out 2))
                  refine bodyPost_ret (results_ct rfl _ _ gb174 23 #[.int .i64 x176000_6, .int .i64 x176001_3, .int .i64 (wrap64 (1 + x4_3))] (0, 0) _ rfl (by (with_reducible repeat (first | refine blk_drewN ?_ _ | refine blk_drew ?_ | refine blk_alloc ?_ _)); refine blk_put (cs := #[.int .i64 x176000_6, .int .i64 x176001_3, .int .i64 0]) ?_ 2 _ rfl; (with_reducible repeat (first | refine blk_drewN ?_ _ | refine blk_drew ?_ | refine blk_alloc ?_ _)); refine blk_put (cs := #[.int .i64 x176000_6, .int .i64 0, .int .i64 0]) ?_ 1 _ rfl; (with_reducible repeat (first | refine blk_drewN ?_ _ | refine blk_drew ?_ | refine blk_alloc ?_ _)); refine blk_put (cs := #[.int .i64 0, .int .i64 0, .int .i64 0]) ?_ 0 _ rfl; (with_reducible repeat (first | refine blk_drewN ?_ _ | refine blk_drew ?_ | refine blk_alloc ?_ _)); refine blk_far ?_ NB174_175.out _; (with_reducible repeat (first | refine blk_drewN ?_ _ | refine blk_drew ?_ | refine blk_alloc ?_ _)); exact BK174.out) Tryz.underlying23 rfl (by kernel_rfl)) rfl ?_
                  exact ⟨by first | rfl | (simp [errW_none, errW_some] <;> rfl) | (simp [*, errW_none, errW_some] <;> rfl), by repeat (first | (with_reducible first | exact HB.out | apply below_alloc | apply pw_below_drewN | apply below_drew1 | refine below_set ?_ GE174.out | refine below_set ?_ GE175.out) | exact HB.out)⟩

end Go.Proofs.YtfjifhkgifefeaaGreatDoor.PA
end

section
/- The document's date of a day, year by year and month by month: it is the one date of that day. -/
namespace Go.Proofs.YtfjifhkgifefeaaGreatDoor.CivP
open Go.RowKit Go.Proofs.YtfjifhkgifefeaaGreatDoor.PA Go.Proofs.YtfjifhkgifefeaaGreatDoor.CivM Go.Proofs.YtfjifhkgifefeaaGreatDoorW.PrintWords

theorem rof_l1 (k : Nat) : ∀ (x4 y m d : Int), 1 ≤ y → y ≤ 9999 → 1 ≤ m → m ≤ 12 → 0 ≤ x4 → x4 + cum y m < 365 + lpI y → (13 - m).toNat + 1 < k →
    ∃ m' d', vld y m' d' ∧ num y m' d' = dby y + cum y m + x4 - 719162 ∧ fuseeref07_Of.l1 k x4 y m d = some (y, m', d', 0) := by
  induction k with
  | zero => intro x4 y m d _ _ _ _ _ _ h; omega
  | succ k ih =>
    intro x4 y m d h1 h2 h3 h4 h5 h6 h7
    have hd := dim_bd y m
    have e := cum_succ y m h3 h4
    have L := lpI_01 y
    have c0 := cum_le y m 1 h3 h4 (by omega) (by have := dim_pos y m h3 h4; omega)
    simp only [fuseeref07_Of.l1]
    rw [rmonth k y m (by omega)]
    simp only [Option.bind_some]
    by_cases h : x4 ≥ dim y m
    · rw [if_pos h, wid (by omega) (by omega), wid (by omega) (by omega)]
      have hm : m + 1 ≤ 12 := by
        rcases Int.lt_or_le 12 (m + 1) with c | c
        · have : m = 12 := by omega
          subst this
          rw [show (12 : Int) + 1 = 13 from rfl, cum_13] at e; omega
        · exact c
      obtain ⟨m', d', v, hn, r⟩ := ih (x4 - dim y m) y (m + 1) d h1 h2 (by omega) hm (by omega) (by omega) (by omega)
      exact ⟨m', d', v, by rw [hn, e]; omega, r⟩
    · rw [if_neg h, wid (by omega) (by omega)]
      exact ⟨m, 1 + x4, ⟨h1, h2, h3, h4, by omega, by omega⟩, by unfold num; omega, rfl⟩
theorem rof_l0 (k : Nat) : ∀ (x4 y : Int), 1 ≤ y → y ≤ 9999 → 0 ≤ x4 → dby y + x4 ≤ 3652058 → (10000 - y).toNat + 20 ≤ k →
    ∃ y' m' d', vld y' m' d' ∧ num y' m' d' = dby y + x4 - 719162 ∧ fuseeref07_Of.l0 k x4 y 1 1 = some (y', m', d', 0) := by
  induction k with
  | zero => intro x4 y _ _ _ _ h; omega
  | succ k ih =>
    intro x4 y h1 h2 h3 h4 h5
    have L := lpI_01 y
    have e := dby_succ y
    have hb : 0 ≤ dby y := by
      have := dby_mono 1 y h1
      have e4 : dby 1 = 0 := by decide
      omega
    have nxt : x4 ≥ 365 + lpI y → y + 1 ≤ 9999 := by
      intro c
      rcases Int.lt_or_le 9999 (y + 1) with q | q
      · have := dby_mono 10000 (y + 1) (by omega)
        have e3 : dby 10000 = 3652059 := by decide
        omega
      · exact q
    have stop : x4 < 365 + lpI y → ∃ y' m' d', vld y' m' d' ∧ num y' m' d' = dby y + x4 - 719162 ∧ fuseeref07_Of.j2 k x4 y 1 1 = some (y', m', d', 0) := by
      intro c
      obtain ⟨k, rfl⟩ : ∃ j, k = j + 1 := ⟨k - 1, by omega⟩
      obtain ⟨m', d', v, hn, r⟩ := rof_l1 k x4 y 1 1 h1 h2 (by omega) (by omega) h3 (by rw [cum_one]; omega) (by omega)
      rw [cum_one] at hn
      exact ⟨y, m', d', v, by omega, r⟩
    simp only [fuseeref07_Of.l0]
    rw [rleap]
    simp only [Option.bind_some]
    by_cases hl : lpI y = 1
    · rw [decide_eq_true hl]; simp only [if_true]
      by_cases h : x4 < 366
      · rw [if_pos h]; exact stop (by omega)
      · rw [if_neg h, wid (by omega) (by omega), wid (by omega) (by omega)]
        have := nxt (by omega)
        obtain ⟨y', m', d', v, hn, r⟩ := ih (x4 - 366) (y + 1) (by omega) (by omega) (by omega) (by omega) (by omega)
        exact ⟨y', m', d', v, by rw [hn]; omega, r⟩
    · rw [decide_eq_false hl]; simp only [Bool.false_eq_true, if_false]
      by_cases h : x4 < 365
      · rw [if_pos h]; exact stop (by omega)
      · rw [if_neg h, wid (by omega) (by omega), wid (by omega) (by omega)]
        have := nxt (by omega)
        obtain ⟨y', m', d', v, hn, r⟩ := ih (x4 - 365) (y + 1) (by omega) (by omega) (by omega) (by omega) (by omega)
        exact ⟨y', m', d', v, by rw [hn]; omega, r⟩
theorem rof_ok (k : Nat) (n : Int) (hk : 20001 ≤ k) (h0 : -719162 ≤ n) (h1 : n ≤ 2932896) : ∃ y m d, vld y m d ∧ num y m d = n ∧ fuseeref07_Of.f k n = some (y, m, d, 0) := by
  obtain ⟨k, rfl⟩ : ∃ j, k = j + 1 := ⟨k - 1, by omega⟩
  unfold fuseeref07_Of.f
  rw [if_neg (by omega), decide_eq_false (by omega)]
  simp only [fuseeref07_Of.j0, Bool.false_eq_true, if_false]
  rw [wid (by omega) (by omega)]
  have e4 : dby 1 = 0 := by decide
  obtain ⟨y, m, d, v, hn, r⟩ := rof_l0 k (n + 719162) 1 (by omega) (by omega) (by omega) (by omega) (by omega)
  exact ⟨y, m, d, v, by rw [hn]; omega, r⟩
theorem rof_no (k : Nat) (n : Int) (hk : 1 ≤ k) (h : n < -719162 ∨ 2932896 < n) : fuseeref07_Of.f k n = some (0, 0, 0, 2) := by
  obtain ⟨k, rfl⟩ : ∃ j, k = j + 1 := ⟨k - 1, by omega⟩
  unfold fuseeref07_Of.f
  by_cases c : n < -719162
  · rw [if_pos c]; rfl
  · rw [if_neg c, decide_eq_true (by omega)]; rfl
end Go.Proofs.YtfjifhkgifefeaaGreatDoor.CivP
end

section
namespace Go.Proofs.YtfjifhkgifefeaaGreatDoor.PA
open Go.Proofs.YtfjifhkgifefeaaGreatDoor.Giv Go.RowKit Go.Proofs.YtfjifhkgifefeaaGreatDoorW.PrintWords Go.Proofs.YtfjifhkgifefeaaGreatDoorW.PrintLast Go.Proofs.YtfjifhkgifefeaaGreatDoorW.PrintMore
attribute [local go_sem] max2_int min2_int max_two min_two max_three min_three max_four min_four   -- for this text's walks alone
set_option linter.unusedVariables false
set_option linter.unusedSimpArgs false

/-! ### fuseeref07_Two: function 99 -/
def fuseeref07_Two.l0 : Nat → Int → Int → ByteArray → Int → Option (ByteArray)
  | 0, _, _, _, _ => none
  | k + 1, x0, x1, x5, x6 => if x6 < x1 then (if 0 ≤ (Int.tmod x0 10) then (if (Int.tmod x0 10) ≤ (wrap64 ((Int.tmod x0 10) + 1)) then (if (wrap64 ((Int.tmod x0 10) + 1)) ≤ 10 then (if ((⟨#[48, 49, 50, 51, 52, 53, 54, 55, 56, 57]⟩ : ByteArray).extract ((Int.tmod x0 10) : Int).toNat ((wrap64 ((Int.tmod x0 10) + 1)) : Int).toNat).size + x5.size ≤ 9223372036854775807 then (fuseeref07_Two.l0 k (wrap64 (Int.tdiv x0 10)) x1 (((⟨#[48, 49, 50, 51, 52, 53, 54, 55, 56, 57]⟩ : ByteArray).extract ((Int.tmod x0 10) : Int).toNat ((wrap64 ((Int.tmod x0 10) + 1)) : Int).toNat) ++ x5) (wrap64 (x6 + 1))) else (none)) else (none)) else (none)) else (none)) else (some x5)
def fuseeref07_Two.f (k : Nat) (a0 : Int) (a1 : Int) : Option (ByteArray) := fuseeref07_Two.l0 k a0 a1 (⟨#[]⟩ : ByteArray) 0
set_option maxHeartbeats 8000000 in
set_option maxRecDepth 100000 in
theorem fuseeref07_Two.calls (k : Nat) (a0 : Int) (a1 : Int) (r : ByteArray) (w : World) (h : fuseeref07_Two.f k a0 a1 = some r) :
    Calls Tryz.prog 99 #[.int .i64 a0, .int .i64 a1] w fun e w' => e = .returned (.string r) ∧ Drawn0 w w' := by
  have H := h
  clear h
  replace H : (fuseeref07_Two.l0 k a0 a1 (⟨#[]⟩ : ByteArray) 0) = some r := H
  have H' := Aside0.mk H
  clear H
  go_enter Tryz.func99, Tryz.ntmps99
  go_wp2
  go_loopg [0, 5, 6] k (fun kq v0 v5 v6 w' => ∃ (x0_1 : Int) (x5_1 : ByteArray) (x6_1 : Int), v0 = .int .i64 x0_1 ∧ v5 = .string x5_1 ∧ v6 = .int .i64 x6_1 ∧ Aside0 (fuseeref07_Two.l0 kq x0_1 a1 x5_1 x6_1 = some r) ∧ Aside0 (kq ≤ k) ∧ Drawn0 w w')
  case atStart => exact ⟨(a0), ((⟨#[]⟩ : ByteArray)), (0), (by first | rfl | (simp; done) | (simp [*]; done)), (by first | rfl | (simp; done) | (simp [*]; done)), (by first | rfl | (simp; done) | (simp [*]; done)), H', ⟨Nat.le_refl _⟩, by repeat (first | exact Drawn0.refl _ | apply Drawn0.step)⟩
  case round =>
    clear H'
    try clear p2
    obtain ⟨x0_1, x5_1, x6_1, rfl, rfl, rfl, HA, HK1, ⟨m1, rfl⟩⟩ := hrel
    cases gk with
    | zero => exact absurd HA.out (by simp [fuseeref07_Two.l0])
    | succ k1 =>
      have H := HA.out
      clear HA
      simp only [fuseeref07_Two.l0] at H
      by_cases c3 : x6_1 < a1
      · rw [if_pos c3] at H
        have c3b0 : decide (x6_1 < a1) = true := decide_eq_true c3
        clear c3
        obtain ⟨ji4, hji4⟩ : ∃ j_ : Int, (Int.tmod x0_1 10) = j_ := ⟨_, rfl⟩
        replace H : (if 0 ≤ (ji4) then (if (ji4) ≤ (wrap64 ((ji4) + 1)) then (if (wrap64 ((ji4) + 1)) ≤ 10 then (if ((⟨#[48, 49, 50, 51, 52, 53, 54, 55, 56, 57]⟩ : ByteArray).extract ((ji4) : Int).toNat ((wrap64 ((ji4) + 1)) : Int).toNat).size + x5_1.size ≤ 9223372036854775807 then (fuseeref07_Two.l0 k1 (wrap64 (Int.tdiv x0_1 10)) a1 (((⟨#[48, 49, 50, 51, 52, 53, 54, 55, 56, 57]⟩ : ByteArray).extract ((ji4) : Int).toNat ((wrap64 ((ji4) + 1)) : Int).toNat) ++ x5_1) (wrap64 (x6_1 + 1))) else (none)) else (none)) else (none)) else (none)) = some r := by first | (rw [hji4] at H; exact H) | (simp only [hji4] at H ⊢; exact H)
        by_cases c5 : 0 ≤ (ji4)
        · rw [if_pos c5] at H
          have c5b0 := eq_true c5
          have c5b1 : decide (0 ≤ (ji4)) = true := decide_eq_true c5
          clear c5
          by_cases c6 : (ji4) ≤ (wrap64 ((ji4) + 1))
          · rw [if_pos c6] at H
            have c6b0 := eq_true c6
            have c6b1 : decide ((ji4) ≤ (wrap64 ((ji4) + 1))) = true := decide_eq_true c6
            by_cases c7 : (wrap64 ((ji4) + 1)) ≤ 10
            · rw [if_pos c7] at H
              have c7b0 := eq_true c7
              have c7b1 : decide ((wrap64 ((ji4) + 1)) ≤ 10) = true := decide_eq_true c7
              by_cases c8 : ((⟨#[48, 49, 50, 51, 52, 53, 54, 55, 56, 57]⟩ : ByteArray).extract ((ji4) : Int).toNat ((wrap64 ((ji4) + 1)) : Int).toNat).size + x5_1.size ≤ 9223372036854775807
              · rw [if_pos c8] at H
                have c8b0 := eq_true c8
                have c8b1 : decide (((⟨#[48, 49, 50, 51, 52, 53, 54, 55, 56, 57]⟩ : ByteArray).extract ((ji4) : Int).toNat ((wrap64 ((ji4) + 1)) : Int).toNat).size + x5_1.size ≤ 9223372036854775807) = true := decide_eq_true c8
                try have c8b2 : (9223372036854775807 < ((⟨#[48, 49, 50, 51, 52, 53, 54, 55, 56, 57]⟩ : ByteArray).extract ((ji4) : Int).toNat ((wrap64 ((ji4) + 1)) : Int).toNat).size + x5_1.size) = False := eq_false (Nat.not_lt.2 c8)
                have H' := Aside0.mk H
                clear H
                go_wp2
                go_roundg k1
                case measure => have := HK1.out; omega
                case rel => exact ⟨(wrap64 (Int.tdiv x0_1 10)), (((⟨#[48, 49, 50, 51, 52, 53, 54, 55, 56, 57]⟩ : ByteArray).extract ((ji4) : Int).toNat ((wrap64 ((ji4) + 1)) : Int).toNat) ++ x5_1), (wrap64 (x6_1 + 1)), (by first | rfl | (simp; done) | (simp [*]; done)), (by first | rfl | (simp; done) | (simp only [← hji4] <;> (first | rfl | simp)) | (simp [*]; done)), (by first | rfl | (simp; done) | (simp [*]; done)), H', ⟨by have := HK1.out; omega⟩, by repeat (first | exact Drawn0.refl _ | apply Drawn0.step)⟩
              · rw [if_neg c8] at H
                exact absurd H (by simp)
            · rw [if_neg c7] at H
              exact absurd H (by simp)
          · rw [if_neg c6] at H
            exact absurd H (by simp)
        · rw [if_neg c5] at H
          exact absurd H (by simp)
      · rw [if_neg c3] at H
        have c3b0 : decide (x6_1 < a1) = false := decide_eq_false c3
        clear c3
        obtain rfl := Option.some.inj H
        go_wp2
        go_ret
        exact ⟨by first | rfl | (simp; done) | (simp [*]; done), by repeat (first | exact Drawn0.refl _ | apply Drawn0.step)⟩

end Go.Proofs.YtfjifhkgifefeaaGreatDoor.PA
end

section
namespace Go.Proofs.YtfjifhkgifefeaaGreatDoor.PA
open Go.Proofs.YtfjifhkgifefeaaGreatDoor.Giv Go.RowKit Go.Proofs.YtfjifhkgifefeaaGreatDoorW.PrintWords Go.Proofs.YtfjifhkgifefeaaGreatDoorW.PrintLast Go.Proofs.YtfjifhkgifefeaaGreatDoorW.PrintMore
attribute [local go_sem] max2_int min2_int max_two min_two max_three min_three max_four min_four   -- for this text's walks alone
set_option linter.unusedVariables false
set_option linter.unusedSimpArgs false

/-! ### fuseeref07_Text: function 29 -/
def fuseeref07_Text.f (k : Nat) (a0_0 : Int) (a0_1 : Int) (a0_2 : Int) : Option (ByteArray) := (fuseeref07_Two.f k a0_0 4).bind fun t220 => (if t220.size + 1 ≤ 9223372036854775807 then ((fuseeref07_Two.f k a0_1 2).bind fun t221 => (if (t220 ++ (⟨#[45]⟩ : ByteArray)).size + t221.size ≤ 9223372036854775807 then (if ((t220 ++ (⟨#[45]⟩ : ByteArray)) ++ t221).size + 1 ≤ 9223372036854775807 then ((fuseeref07_Two.f k a0_2 2).bind fun t222 => (if (((t220 ++ (⟨#[45]⟩ : ByteArray)) ++ t221) ++ (⟨#[45]⟩ : ByteArray)).size + t222.size ≤ 9223372036854775807 then (some ((((t220 ++ (⟨#[45]⟩ : ByteArray)) ++ t221) ++ (⟨#[45]⟩ : ByteArray)) ++ t222)) else (none))) else (none)) else (none))) else (none))
set_option maxHeartbeats 8000000 in
set_option maxRecDepth 100000 in
theorem fuseeref07_Text.calls (k : Nat) (a0_0 : Int) (a0_1 : Int) (a0_2 : Int) (r : ByteArray) (w : World) (h : fuseeref07_Text.f k a0_0 a0_1 a0_2 = some r) :
    Calls Tryz.prog 29 #[.agg #[.int .i64 a0_0, .int .i64 a0_1, .int .i64 a0_2]] w fun e w' => e = .returned (.string r) ∧ Below w.heap.size w w' := by
  have hu23 := Tryz.underlying23
  have HB := Aside0.mk (Below.refl w.heap.size w)
  have H := h
  clear h
  unfold fuseeref07_Text.f at H
  replace H := Option.bind_eq_some_iff.mp H
  obtain ⟨t220, A20, H⟩ := H
  try dsimp only at H
  have A2 := Aside0.mk A20
  clear A20
  by_cases c3 : t220.size + 1 ≤ 9223372036854775807
  · rw [if_pos c3] at H
    have c3b0 := eq_true c3
    have c3b1 : decide (t220.size + 1 ≤ 9223372036854775807) = true := decide_eq_true c3
    try have c3b2 : (9223372036854775807 < t220.size + 1) = False := eq_false (Nat.not_lt.2 c3)
    replace H := Option.bind_eq_some_iff.mp H
    obtain ⟨t221, A40, H⟩ := H
    try dsimp only at H
    have A4 := Aside0.mk A40
    clear A40
    by_cases c5 : (t220 ++ (⟨#[45]⟩ : ByteArray)).size + t221.size ≤ 9223372036854775807
    · rw [if_pos c5] at H
      have c5b0 := eq_true c5
      have c5b1 : decide ((t220 ++ (⟨#[45]⟩ : ByteArray)).size + t221.size ≤ 9223372036854775807) = true := decide_eq_true c5
      try have c5b2 : (9223372036854775807 < (t220 ++ (⟨#[45]⟩ : ByteArray)).size + t221.size) = False := eq_false (Nat.not_lt.2 c5)
      try have c5b3 : (9223372036854775807 < t220.size + 1 + t221.size) = False := eq_false (by have q_ := c5; simp only [ByteArray.size_append] at q_; exact Nat.not_lt.2 q_)
      by_cases c6 : ((t220 ++ (⟨#[45]⟩ : ByteArray)) ++ t221).size + 1 ≤ 9223372036854775807
      · rw [if_pos c6] at H
        have c6b0 := eq_true c6
        have c6b1 : decide (((t220 ++ (⟨#[45]⟩ : ByteArray)) ++ t221).size + 1 ≤ 9223372036854775807) = true := decide_eq_true c6
        try have c6b2 : (9223372036854775807 < ((t220 ++ (⟨#[45]⟩ : ByteArray)) ++ t221).size + 1) = False := eq_false (Nat.not_lt.2 c6)
        try have c6b3 : (9223372036854775807 < t220.size + 1 + t221.size + 1) = False := eq_false (by have q_ := c6; simp only [ByteArray.size_append] at q_; exact Nat.not_lt.2 q_)
        replace H := Option.bind_eq_some_iff.mp H
        obtain ⟨t222, A70, H⟩ := H
        try dsimp only at H
        have A7 := Aside0.mk A70
        clear A70
        by_cases c8 : (((t220 ++ (⟨#[45]⟩ : ByteArray)) ++ t221) ++ (⟨#[45]⟩ : ByteArray)).size + t222.size ≤ 9223372036854775807
        · rw [if_pos c8] at H
          have c8b0 := eq_true c8
          have c8b1 : decide ((((t220 ++ (⟨#[45]⟩ : ByteArray)) ++ t221) ++ (⟨#[45]⟩ : ByteArray)).size + t222.size ≤ 9223372036854775807) = true := decide_eq_true c8
          try have c8b2 : (9223372036854775807 < (((t220 ++ (⟨#[45]⟩ : ByteArray)) ++ t221) ++ (⟨#[45]⟩ : ByteArray)).size + t222.size) = False := eq_false (Nat.not_lt.2 c8)
          try have c8b3 : (9223372036854775807 < t220.size + 1 + t221.size + 1 + t222.size) = False := eq_false (by have q_ := c8; simp only [ByteArray.size_append] at q_; exact Nat.not_lt.2 q_)
          obtain rfl := Option.some.inj H
          go_enter Tryz.func29, Tryz.ntmps29
          go_wp2_with (first | ((with_reducible refine gate_dst (N := 1) rfl ?_); refine box_event ?hg (N := 1) ?hd (cs := #[.int .i64 a0_0, .int .i64 a0_1, .int .i64 a0_2]) (t := 23) ?hr ?_; (case hd => rfl); (case hg => rfl); (case hr => first | (go_simp; done) | (go_simp; rfl)); intro gb219 hg w9 hbox hb; have n0_ := Aside0.mk (below_step (by repeat (first | (with_reducible first | exact HB.out | apply below_alloc | apply pw_below_drewN | apply below_drew1) | exact HB.out)) hb); have n1_ := Aside0.mk (hbox); have n2_ := Aside0.mk ((by rw [hg]; exact (below_size (by repeat (first | (with_reducible first | exact HB.out | apply below_alloc | apply pw_below_drewN | apply below_drew1) | exact HB.out))) : w.heap.size ≤ gb219)); have n3_ := Aside0.mk ((by rw [hg]; exact (below_size (by repeat (first | (with_reducible first | exact HB.out | apply below_alloc | apply pw_below_drewN | apply below_drew1) | exact HB.out))) : w.heap.size ≤ gb219)); clear HB; have HB := n0_; have BK219 := n1_; have GW219 := n2_; have GE219 := n3_; clear n0_ n1_ n2_ n3_; clear hb hbox hg; have hcz10_0 : w9.cell? ⟨gb219, 0, none⟩ = some (.int .i64 a0_0) := (blk_cell BK219.out 0).trans rfl; have hcz10_1 : w9.cell? ⟨gb219, 1, none⟩ = some (.int .i64 a0_1) := (blk_cell BK219.out 1).trans rfl; have hcz10_2 : w9.cell? ⟨gb219, 2, none⟩ = some (.int .i64 a0_2) := (blk_cell BK219.out 2).trans rfl; have hfz10_0 := blk_frozen BK219.out 0; have hfz10_1 := blk_frozen BK219.out 1; have hfz10_2 := blk_frozen BK219.out 2) | (go_at_call 99; (with_reducible refine (fuseeref07_Two.calls k a0_0 4 t220 _ A2.out).mono ?_); rintro e w' ⟨rfl, ⟨nd, rfl⟩⟩; (try first | exact ⟨rfl, _, World.drewN_drewN _ _ _⟩ | exact ⟨rfl, _, Eq.trans (World.drewN_drewN _ _ _) (congrArg (World.drewN _) (Nat.add_assoc _ _ _))⟩)) | (go_at_call 99; (with_reducible refine (fuseeref07_Two.calls k a0_1 2 t221 _ A4.out).mono ?_); rintro e w' ⟨rfl, ⟨nd, rfl⟩⟩; (try first | exact ⟨rfl, _, World.drewN_drewN _ _ _⟩ | exact ⟨rfl, _, Eq.trans (World.drewN_drewN _ _ _) (congrArg (World.drewN _) (Nat.add_assoc _ _ _))⟩)) | (go_at_call 99; (with_reducible refine (fuseeref07_Two.calls k a0_2 2 t222 _ A7.out).mono ?_); rintro e w' ⟨rfl, ⟨nd, rfl⟩⟩; (try first | exact ⟨rfl, _, World.drewN_drewN _ _ _⟩ | exact ⟨rfl, _, Eq.trans (World.drewN_drewN _ _ _) (congrArg (World.drewN _) (Nat.add_assoc _ _ _))⟩)))
          repeat (go_quiet (first | ((with_reducible refine gate_dst (N := 1) rfl ?_); refine box_event ?hg (N := 1) ?hd (cs := #[.int .i64 a0_0, .int .i64 a0_1, .int .i64 a0_2]) (t := 23) ?hr ?_; (case hd => rfl); (case hg => rfl); (case hr => first | (go_simp; done) | (go_simp; rfl)); intro gb219 hg w9 hbox hb; have n0_ := Aside0.mk (below_step (by repeat (first | (with_reducible first | exact HB.out | apply below_alloc | apply pw_below_drewN | apply below_drew1) | exact HB.out)) hb); have n1_ := Aside0.mk (hbox); have n2_ := Aside0.mk ((by rw [hg]; exact (below_size (by repeat (first | (with_reducible first | exact HB.out | apply below_alloc | apply pw_below_drewN | apply below_drew1) | exact HB.out))) : w.heap.size ≤ gb219)); have n3_ := Aside0.mk ((by rw [hg]; exact (below_size (by repeat (first | (with_reducible first | exact HB.out | apply below_alloc | apply pw_below_drewN | apply below_drew1) | exact HB.out))) : w.heap.size ≤ gb219)); clear HB; have HB := n0_; have BK219 := n1_; have GW219 := n2_; have GE219 := n3_; clear n0_ n1_ n2_ n3_; clear hb hbox hg; have hcz10_0 : w9.cell? ⟨gb219, 0, none⟩ = some (.int .i64 a0_0) := (blk_cell BK219.out 0).trans rfl; have hcz10_1 : w9.cell? ⟨gb219, 1, none⟩ = some (.int .i64 a0_1) := (blk_cell BK219.out 1).trans rfl; have hcz10_2 : w9.cell? ⟨gb219, 2, none⟩ = some (.int .i64 a0_2) := (blk_cell BK219.out 2).trans rfl; have hfz10_0 := blk_frozen BK219.out 0; have hfz10_1 := blk_frozen BK219.out 1; have hfz10_2 := blk_frozen BK219.out 2) | (go_at_call 99; (with_reducible refine (fuseeref07_Two.calls k a0_0 4 t220 _ A2.out).mono ?_); rintro e w' ⟨rfl, ⟨nd, rfl⟩⟩; (try first | exact ⟨rfl, _, World.drewN_drewN _ _ _⟩ | exact ⟨rfl, _, Eq.trans (World.drewN_drewN _ _ _) (congrArg (World.drewN _) (Nat.add_assoc _ _ _))⟩)) | (go_at_call 99; (with_reducible refine (fuseeref07_Two.calls k a0_1 2 t221 _ A4.out).mono ?_); rintro e w' ⟨rfl, ⟨nd, rfl⟩⟩; (try first | exact ⟨rfl, _, World.drewN_drewN _ _ _⟩ | exact ⟨rfl, _, Eq.trans (World.drewN_drewN _ _ _) (congrArg (World.drewN _) (Nat.add_assoc _ _ _))⟩)) | (go_at_call 99; (with_reducible refine (fuseeref07_Two.calls k a0_2 2 t222 _ A7.out).mono ?_); rintro e w' ⟨rfl, ⟨nd, rfl⟩⟩; (try first | exact ⟨rfl, _, World.drewN_drewN _ _ _⟩ | exact ⟨rfl, _, Eq.trans (World.drewN_drewN _ _ _) (congrArg (World.drewN _) (Nat.add_assoc _ _ _))⟩))); try go_wp2_with (first | ((with_reducible refine gate_dst (N := 1) rfl ?_); refine box_event ?hg (N := 1) ?hd (cs := #[.int .i64 a0_0, .int .i64 a0_1, .int .i64 a0_2]) (t := 23) ?hr ?_; (case hd => rfl); (case hg => rfl); (case hr => first | (go_simp; done) | (go_simp; rfl)); intro gb219 hg w9 hbox hb; have n0_ := Aside0.mk (below_step (by repeat (first | (with_reducible first | exact HB.out | apply below_alloc | apply pw_below_drewN | apply below_drew1) | exact HB.out)) hb); have n1_ := Aside0.mk (hbox); have n2_ := Aside0.mk ((by rw [hg]; exact (below_size (by repeat (first | (with_reducible first | exact HB.out | apply below_alloc | apply pw_below_drewN | apply below_drew1) | exact HB.out))) : w.heap.size ≤ gb219)); have n3_ := Aside0.mk ((by rw [hg]; exact (below_size (by repeat (first | (with_reducible first | exact HB.out | apply below_alloc | apply pw_below_drewN | apply below_drew1) | exact HB.out))) : w.heap.size ≤ gb219)); clear HB; have HB := n0_; have BK219 := n1_; have GW219 := n2_; have GE219 := n3_; clear n0_ n1_ n2_ n3_; clear hb hbox hg; have hcz10_0 : w9.cell? ⟨gb219, 0, none⟩ = some (.int .i64 a0_0) := (blk_cell BK219.out 0).trans rfl; have hcz10_1 : w9.cell? ⟨gb219, 1, none⟩ = some (.int .i64 a0_1) := (blk_cell BK219.out 1).trans rfl; have hcz10_2 : w9.cell? ⟨gb219, 2, none⟩ = some (.int .i64 a0_2) := (blk_cell BK219.out 2).trans rfl; have hfz10_0 := blk_frozen BK219.out 0; have hfz10_1 := blk_frozen BK219.out 1; have hfz10_2 := blk_frozen BK219.out 2) | (go_at_call 99; (with_reducible refine (fuseeref07_Two.calls k a0_0 4 t220 _ A2.out).mono ?_); rintro e w' ⟨rfl, ⟨nd, rfl⟩⟩; (try first | exact ⟨rfl, _, World.drewN_drewN _ _ _⟩ | exact ⟨rfl, _, Eq.trans (World.drewN_drewN _ _ _) (congrArg (World.drewN _) (Nat.add_assoc _ _ _))⟩)) | (go_at_call 99; (with_reducible refine (fuseeref07_Two.calls k a0_1 2 t221 _ A4.out).mono ?_); rintro e w' ⟨rfl, ⟨nd, rfl⟩⟩; (try first | exact ⟨rfl, _, World.drewN_drewN _ _ _⟩ | exact ⟨rfl, _, Eq.trans (World.drewN_drewN _ _ _) (congrArg (World.drewN _) (Nat.add_assoc _ _ _))⟩)) | (go_at_call 99; (with_reducible refine (fuseeref07_Two.calls k a0_2 2 t222 _ A7.out).mono ?_); rintro e w' ⟨rfl, ⟨nd, rfl⟩⟩; (try first | exact ⟨rfl, _, World.drewN_drewN _ _ _⟩ | exact ⟨rfl, _, Eq.trans (World.drewN_drewN _ _ _) (congrArg (World.drewN _) (Nat.add_assoc _ _ _))⟩))))
          go_ret
          exact ⟨by first | rfl | (simp [errW_none, errW_some] <;> rfl) | (simp [*, errW_none, errW_some] <;> rfl), by repeat (first | (with_reducible first | exact HB.out | apply below_alloc | apply pw_below_drewN | apply below_drew1 | refine below_set ?_ GE219.out) | exact HB.out)⟩
        · rw [if_neg c8] at H
          exact absurd H (by simp)
      · rw [if_neg c6] at H
        exact absurd H (by simp)
    · rw [if_neg c5] at H
      exact absurd H (by simp)
  · rw [if_neg c3] at H
    exact absurd H (by simp)

end Go.Proofs.YtfjifhkgifefeaaGreatDoor.PA
end

section
namespace Go.Proofs.YtfjifhkgifefeaaGreatDoor.PA
open Go.Proofs.YtfjifhkgifefeaaGreatDoor.Giv Go.RowKit Go.Proofs.YtfjifhkgifefeaaGreatDoorW.PrintWords Go.Proofs.YtfjifhkgifefeaaGreatDoorW.PrintLast Go.Proofs.YtfjifhkgifefeaaGreatDoorW.PrintMore
attribute [local go_sem] max2_int min2_int max_two min_two max_three min_three max_four min_four   -- for this text's walks alone
set_option linter.unusedVariables false
set_option linter.unusedSimpArgs false

/-! ### fuseeref07_Digits: function 98 -/
def fuseeref07_Digits.l0 : Nat → ByteArray → Int → Int → Option (Int)
  | 0, _, _, _ => none
  | k + 1, x0, x3, x4 => if x4 < (x0.size : Int) then (if 0 ≤ x4 then (if (bt x0 x4) < 48 then (some (-1)) else (if (bt x0 x4) > 57 then (some (-1)) else (if x3 > 100000000 then (some (-1)) else (fuseeref07_Digits.l0 k x0 (wrap64 ((wrap64 (10 * x3)) + (((bt x0 x4) - 48) % 256))) (wrap64 (x4 + 1)))))) else (none)) else (some x3)
def fuseeref07_Digits.f (k : Nat) (a0 : ByteArray) : Option (Int) := fuseeref07_Digits.l0 k a0 0 0
set_option maxHeartbeats 8000000 in
set_option maxRecDepth 100000 in
theorem fuseeref07_Digits.calls (k : Nat) (a0 : ByteArray) (r : Int) (w : World) (h : fuseeref07_Digits.f k a0 = some r) :
    Calls Tryz.prog 98 #[.string a0] w fun e w' => e = .returned (.int .i64 r) ∧ Drawn0 w w' := by
  have H := h
  clear h
  replace H : (fuseeref07_Digits.l0 k a0 0 0) = some r := H
  have H' := Aside0.mk H
  clear H
  go_enter Tryz.func98, Tryz.ntmps98
  go_wp2
  go_loopg [3, 4] k (fun kq v3 v4 w' => ∃ (x3_1 : Int) (x4_1 : Int), v3 = .int .i64 x3_1 ∧ v4 = .int .i64 x4_1 ∧ Aside0 (fuseeref07_Digits.l0 kq a0 x3_1 x4_1 = some r) ∧ Aside0 (kq ≤ k) ∧ Drawn0 w w')
  case atStart => exact ⟨(0), (0), (by first | rfl | (simp; done) | (simp [*]; done)), (by first | rfl | (simp; done) | (simp [*]; done)), H', ⟨Nat.le_refl _⟩, by repeat (first | exact Drawn0.refl _ | apply Drawn0.step)⟩
  case round =>
    clear H'
    obtain ⟨x3_1, x4_1, rfl, rfl, HA, HK1, ⟨m1, rfl⟩⟩ := hrel
    cases gk with
    | zero => exact absurd HA.out (by simp [fuseeref07_Digits.l0])
    | succ k1 =>
      have H := HA.out
      clear HA
      simp only [fuseeref07_Digits.l0] at H
      by_cases c2 : x4_1 < (a0.size : Int)
      · rw [if_pos c2] at H
        have c2b0 : decide (x4_1 < (a0.size : Int)) = true := decide_eq_true c2
        clear c2
        by_cases c3 : 0 ≤ x4_1
        · rw [if_pos c3] at H
          have c3b0 : decide (0 ≤ x4_1) = true := decide_eq_true c3
          clear c3
          by_cases c5 : (bt a0 x4_1) < 48
          · rw [if_pos c5] at H
            have c5b0 : decide ((bt a0 x4_1) < 48) = true := decide_eq_true c5
            clear c5
            obtain rfl := Option.some.inj H
            have p4 : 0 ≤ (x4_1 : Int) := of_decide_eq_true (by first | (with_reducible assumption) | assumption)
            have q4 : x4_1 < (a0.size : Int) := of_decide_eq_true (by first | (with_reducible assumption) | assumption)
            have hx4 := bt_at a0 x4_1
            replace p4 := eq_true p4
            replace q4 := eq_true q4
            go_wp2
            go_ret
            exact ⟨by first | rfl | (simp; done) | (simp [*]; done), by repeat (first | exact Drawn0.refl _ | apply Drawn0.step)⟩
          · rw [if_neg c5] at H
            have c5b0 : decide ((bt a0 x4_1) < 48) = false := decide_eq_false c5
            clear c5
            by_cases c7 : (bt a0 x4_1) > 57
            · rw [if_pos c7] at H
              have c7b0 : decide (57 < (bt a0 x4_1)) = true := decide_eq_true c7
              clear c7
              obtain rfl := Option.some.inj H
              have p4 : 0 ≤ (x4_1 : Int) := of_decide_eq_true (by first | (with_reducible assumption) | assumption)
              have q4 : x4_1 < (a0.size : Int) := of_decide_eq_true (by first | (with_reducible assumption) | assumption)
              have hx4 := bt_at a0 x4_1
              replace p4 := eq_true p4
              replace q4 := eq_true q4
              have p6 : 0 ≤ (x4_1 : Int) := of_decide_eq_true (by first | (with_reducible assumption) | assumption)
              have q6 : x4_1 < (a0.size : Int) := of_decide_eq_true (by first | (with_reducible assumption) | assumption)
              have hx6 := bt_at a0 x4_1
              replace p6 := eq_true p6
              replace q6 := eq_true q6
              go_wp2
              go_ret
              exact ⟨by first | rfl | (simp; done) | (simp [*]; done), by repeat (first | exact Drawn0.refl _ | apply Drawn0.step)⟩
            · rw [if_neg c7] at H
              have c7b0 : decide (57 < (bt a0 x4_1)) = false := decide_eq_false c7
              clear c7
              by_cases c8 : x3_1 > 100000000
              · rw [if_pos c8] at H
                have c8b0 : decide (100000000 < x3_1) = true := decide_eq_true c8
                clear c8
                obtain rfl := Option.some.inj H
                have p4 : 0 ≤ (x4_1 : Int) := of_decide_eq_true (by first | (with_reducible assumption) | assumption)
                have q4 : x4_1 < (a0.size : Int) := of_decide_eq_true (by first | (with_reducible assumption) | assumption)
                have hx4 := bt_at a0 x4_1
                replace p4 := eq_true p4
                replace q4 := eq_true q4
                have p6 : 0 ≤ (x4_1 : Int) := of_decide_eq_true (by first | (with_reducible assumption) | assumption)
                have q6 : x4_1 < (a0.size : Int) := of_decide_eq_true (by first | (with_reducible assumption) | assumption)
                have hx6 := bt_at a0 x4_1
                replace p6 := eq_true p6
                replace q6 := eq_true q6
                go_wp2
                go_ret
                exact ⟨by first | rfl | (simp; done) | (simp [*]; done), by repeat (first | exact Drawn0.refl _ | apply Drawn0.step)⟩
              · rw [if_neg c8] at H
                have c8b0 : decide (100000000 < x3_1) = false := decide_eq_false c8
                clear c8
                have H' := Aside0.mk H
                clear H
                have p4 : 0 ≤ (x4_1 : Int) := of_decide_eq_true (by first | (with_reducible assumption) | assumption)
                have q4 : x4_1 < (a0.size : Int) := of_decide_eq_true (by first | (with_reducible assumption) | assumption)
                have hx4 := bt_at a0 x4_1
                replace p4 := eq_true p4
                replace q4 := eq_true q4
                have p6 : 0 ≤ (x4_1 : Int) := of_decide_eq_true (by first | (with_reducible assumption) | assumption)
                have q6 : x4_1 < (a0.size : Int) := of_decide_eq_true (by first | (with_reducible assumption) | assumption)
                have hx6 := bt_at a0 x4_1
                replace p6 := eq_true p6
                replace q6 := eq_true q6
                have p9 : 0 ≤ (x4_1 : Int) := of_decide_eq_true (by first | (with_reducible assumption) | assumption)
                have q9 : x4_1 < (a0.size : Int) := of_decide_eq_true (by first | (with_reducible assumption) | assumption)
                have hx9 := bt_at a0 x4_1
                replace p9 := eq_true p9
                replace q9 := eq_true q9
                go_wp2
                go_roundg k1
                case measure => have := HK1.out; omega
                case rel => exact ⟨(wrap64 ((wrap64 (10 * x3_1)) + (((bt a0 x4_1) - 48) % 256))), (wrap64 (x4_1 + 1)), (by first | rfl | (simp; done) | (simp [*]; done)), (by first | rfl | (simp; done) | (simp [*]; done)), H', ⟨by have := HK1.out; omega⟩, by repeat (first | exact Drawn0.refl _ | apply Drawn0.step)⟩
        · rw [if_neg c3] at H
          exact absurd H (by simp)
      · rw [if_neg c2] at H
        have c2b0 : decide (x4_1 < (a0.size : Int)) = false := decide_eq_false c2
        clear c2
        obtain rfl := Option.some.inj H
        go_wp2
        go_ret
        exact ⟨by first | rfl | (simp; done) | (simp [*]; done), by repeat (first | exact Drawn0.refl _ | apply Drawn0.step)⟩

end Go.Proofs.YtfjifhkgifefeaaGreatDoor.PA
end

section
namespace Go.Proofs.YtfjifhkgifefeaaGreatDoor.PA
open Go.Proofs.YtfjifhkgifefeaaGreatDoor.Giv Go.RowKit Go.Proofs.YtfjifhkgifefeaaGreatDoorW.PrintWords Go.Proofs.YtfjifhkgifefeaaGreatDoorW.PrintLast Go.Proofs.YtfjifhkgifefeaaGreatDoorW.PrintMore
attribute [local go_sem] max2_int min2_int max_two min_two max_three min_three max_four min_four   -- for this text's walks alone
set_option linter.unusedVariables false
set_option linter.unusedSimpArgs false

/-! ### fuseeref07_Parse: function 28 -/
def fuseeref07_Parse.j0 : Nat → ByteArray → Bool → Option (Int × Int × Int × Int)
  | 0, _, _ => none
  | k + 1, x0, x17 => if x17 = true then (some (0, 0, 0, 3)) else (if 0 ≤ 4 then (if 4 ≤ (x0.size : Int) then ((fuseeref07_Digits.f k (x0.extract 0 4)).bind fun t214 => (if 5 ≤ 7 then (if 7 ≤ (x0.size : Int) then ((fuseeref07_Digits.f k (x0.extract 5 7)).bind fun t215 => (if 8 ≤ (x0.size : Int) then ((fuseeref07_Digits.f k (x0.extract 8 x0.size)).bind fun t216 => ((fuseeref07_May.f k t214 t215 t216).bind fun t218 => (if t218 = true then (some (t214, t215, t216, 0)) else (some (0, 0, 0, 3))))) else (none))) else (none)) else (none))) else (none)) else (none))
def fuseeref07_Parse.f (k : Nat) (a0 : ByteArray) : Option (Int × Int × Int × Int) := if (a0.size : Int) = 10 then (if 4 < (a0.size : Int) then (if (bt a0 4) = 45 then (if 7 < (a0.size : Int) then (fuseeref07_Parse.j0 k a0 ((bt a0 7) != 45)) else (none)) else (fuseeref07_Parse.j0 k a0 true)) else (none)) else (fuseeref07_Parse.j0 k a0 true)
def fuseeref07_Parse.T3 : Bool × List (List Nat × List Nat) := (true, [([], []), ([0], [0]), ([1], [1]), ([], []), ([3], [3]), ([4, 2], [4]), ([], []), ([6], [6]), ([7, 5], [7]), ([2, 5, 8], [2, 5, 8]), ([], []), ([10, 9, 8, 0, 1, 2, 3, 4, 5, 6, 7, 8, 9, 10], [9, 10])])
def fuseeref07_Parse.B3 : List Nat := [0, 1, 3, 0, 8, 31, 0, 64, 255, 511, 0, 2047]
theorem fuseeref07_Parse.tab3 : rtab .any (opsOf Tryz.f28 3) = fuseeref07_Parse.T3 := by kernel_rfl
theorem fuseeref07_Parse.bits3 : waitsOk fuseeref07_Parse.T3.2 fuseeref07_Parse.B3 = true := by kernel_rfl
set_option maxHeartbeats 8000000 in
set_option maxRecDepth 100000 in
theorem fuseeref07_Parse.calls (k : Nat) (a0 : ByteArray) (r1 : Int) (r2 : Int) (r3 : Int) (r4 : Int) (w : World) (h : fuseeref07_Parse.f k a0 = some (r1, r2, r3, r4)) :
    Calls Tryz.prog 28 #[.string a0] w fun e w' => e = .returned (.tuple #[.agg #[.int .i64 r1, .int .i64 r2, .int .i64 r3], .int .i64 r4]) ∧ Below w.heap.size w w' := by
  have hu23 := Tryz.underlying23
  have HB := Aside0.mk (Below.refl w.heap.size w)
  have H := h
  clear h
  unfold fuseeref07_Parse.f at H
  have HC2 := Aside0.mk H
  clear H
  go_enter Tryz.func28, Tryz.ntmps28
  go_upto_region 1 with (first | ((with_reducible refine gate_dst (N := 2) rfl ?_); refine box_event ?hg (N := 2) ?hd (cs := #[.int .i64 0, .int .i64 0, .int .i64 0]) (t := 23) ?hr ?_; (case hd => rfl); (case hg => rfl); (case hr => first | (go_simp; done) | (go_simp; rfl)); intro gb213 hg w3 hbox hb; have n0_ := Aside0.mk (below_step (by repeat (first | (with_reducible first | exact HB.out | apply below_alloc | apply pw_below_drewN | apply below_drew1) | exact HB.out)) hb); have n1_ := Aside0.mk (hbox); have n2_ := Aside0.mk ((by rw [hg]; exact (below_size (by repeat (first | (with_reducible first | exact HB.out | apply below_alloc | apply pw_below_drewN | apply below_drew1) | exact HB.out))) : w.heap.size ≤ gb213)); have n3_ := Aside0.mk ((by rw [hg]; exact (below_size (by repeat (first | (with_reducible first | exact HB.out | apply below_alloc | apply pw_below_drewN | apply below_drew1) | exact HB.out))) : w.heap.size ≤ gb213)); clear HB; have HB := n0_; have BK213 := n1_; have GW213 := n2_; have GE213 := n3_; clear n0_ n1_ n2_ n3_; clear hb hbox hg))
  (try simp only [Act.put, List.setIfInBounds_toArray, List.set_cons_zero, List.set_cons_succ])
  go_cut [17] (fun v17 wc => ∃ (kq : Nat) (x17_1 : Bool), v17 = .bool x17_1 ∧ Aside0 (fuseeref07_Parse.j0 kq a0 x17_1 = some (r1, r2, r3, r4)) ∧ Aside0 (kq ≤ k) ∧ Aside0 (wc.heap[gb213]? = some (.cells #[.int .i64 0, .int .i64 0, .int .i64 0] 23 (0, 0))) ∧ Aside0 (Below w.heap.size w wc))
  case first =>
    have H := HC2.out
    clear HC2
    by_cases c4 : (a0.size : Int) = 10
    · rw [if_pos c4] at H
      have c4b0 : ((a0.size : Int) == 10) = true := beq_iff_eq.mpr c4
      have c4b1 : ((a0.size : Int) != 10) = false := bne_eq_false_iff_eq.mpr c4
      clear c4
      (first | rw [c4b0] | (simp only [i64_w, i32_w]; rw [c4b0]) | skip)
      by_cases c5 : 4 < (a0.size : Int)
      · rw [if_pos c5] at H
        have c5b0 : decide (4 < (a0.size : Int)) = true := decide_eq_true c5
        have c5b1 : decide (4 < a0.size) = true := decide_eq_true (by omega)
        clear c5
        by_cases c7 : (bt a0 4) = 45
        · rw [if_pos c7] at H
          have c7b0 : ((bt a0 4) == 45) = true := beq_iff_eq.mpr c7
          have c7b1 : ((bt a0 4) != 45) = false := bne_eq_false_iff_eq.mpr c7
          clear c7
          by_cases c8 : 7 < (a0.size : Int)
          · rw [if_pos c8] at H
            have c8b0 : decide (7 < (a0.size : Int)) = true := decide_eq_true c8
            have c8b1 : decide (7 < a0.size) = true := decide_eq_true (by omega)
            clear c8
            have H' := Aside0.mk H
            clear H
            have p6 : 0 ≤ (4 : Int) := (by omega)
            have q6 : 4 < a0.size := (by have : (4 : Int) < (a0.size : Int) := of_decide_eq_true (by first | (with_reducible assumption) | assumption); omega)
            have hx6 : ∀ h : 4 < a0.size, ((a0[4]'h).toNat : Int) = bt a0 4 := bt_at a0 4
            clear p6
            have qi6 : (4 < (a0.size : Int)) = True := eq_true (of_decide_eq_true (by first | (with_reducible assumption) | assumption))
            replace q6 := eq_true q6
            have p9 : 0 ≤ (7 : Int) := (by omega)
            have q9 : 7 < a0.size := (by have : (7 : Int) < (a0.size : Int) := of_decide_eq_true (by first | (with_reducible assumption) | assumption); omega)
            have hx9 : ∀ h : 7 < a0.size, ((a0[7]'h).toNat : Int) = bt a0 7 := bt_at a0 7
            clear p9
            have qi9 : (7 < (a0.size : Int)) = True := eq_true (of_decide_eq_true (by first | (with_reducible assumption) | assumption))
            replace q9 := eq_true q9
            go_wp2
            go_meet
            case rel => exact ⟨_, (((bt a0 7) != 45)), (by first | rfl | (simp; done) | (simp [*]; done)), H', ⟨by first | omega | exact Nat.le_refl _⟩, ⟨by (with_reducible repeat (first | refine blk_drewN ?_ _ | refine blk_drew ?_ | refine blk_alloc ?_ _)); exact BK213.out⟩, ⟨by repeat (first | (with_reducible first | exact HB.out | apply below_alloc | apply pw_below_drewN | apply below_drew1 | refine below_set ?_ GE213.out) | exact HB.out)⟩⟩
          · rw [if_neg c8] at H
            exact absurd H (by simp)
        · rw [if_neg c7] at H
          have c7b0 : ((bt a0 4) == 45) = false := beq_eq_false_iff_ne.mpr c7
          have c7b1 : ((bt a0 4) != 45) = true := bne_iff_ne.mpr c7
          have H' := Aside0.mk H
          clear H
          have p6 : 0 ≤ (4 : Int) := (by omega)
          have q6 : 4 < a0.size := (by have : (4 : Int) < (a0.size : Int) := of_decide_eq_true (by first | (with_reducible assumption) | assumption); omega)
          have hx6 : ∀ h : 4 < a0.size, ((a0[4]'h).toNat : Int) = bt a0 4 := bt_at a0 4
          clear p6
          have qi6 : (4 < (a0.size : Int)) = True := eq_true (of_decide_eq_true (by first | (with_reducible assumption) | assumption))
          replace q6 := eq_true q6
          go_wp2
          go_meet
          case rel => exact ⟨_, (true), (by first | rfl | (simp; done) | (simp [*]; done)), H', ⟨by first | omega | exact Nat.le_refl _⟩, ⟨by (with_reducible repeat (first | refine blk_drewN ?_ _ | refine blk_drew ?_ | refine blk_alloc ?_ _)); exact BK213.out⟩, ⟨by repeat (first | (with_reducible first | exact HB.out | apply below_alloc | apply pw_below_drewN | apply below_drew1 | refine below_set ?_ GE213.out) | exact HB.out)⟩⟩
      · rw [if_neg c5] at H
        exact absurd H (by simp)
    · rw [if_neg c4] at H
      have c4b0 : ((a0.size : Int) == 10) = false := beq_eq_false_iff_ne.mpr c4
      have c4b1 : ((a0.size : Int) != 10) = true := bne_iff_ne.mpr c4
      (first | rw [c4b0] | (simp only [i64_w, i32_w]; rw [c4b0]) | skip)
      have H' := Aside0.mk H
      clear H
      go_wp2
      go_meet
      case rel => exact ⟨_, (true), (by first | rfl | (simp; done) | (simp [*]; done)), H', ⟨by first | omega | exact Nat.le_refl _⟩, ⟨by (with_reducible repeat (first | refine blk_drewN ?_ _ | refine blk_drew ?_ | refine blk_alloc ?_ _)); exact BK213.out⟩, ⟨by repeat (first | (with_reducible first | exact HB.out | apply below_alloc | apply pw_below_drewN | apply below_drew1 | refine below_set ?_ GE213.out) | exact HB.out)⟩⟩
  case rest =>
    clear HC2
    try clear c2
    try clear p2
    try clear c4
    try clear c4b0
    try clear c4b1
    try clear c5
    try clear c5b0
    try clear c5b1
    try clear p6
    try clear q6
    try clear hx6
    try clear qi6
    try clear c7
    try clear c7b0
    try clear c7b1
    try clear c8
    try clear c8b0
    try clear c8b1
    try clear p9
    try clear q9
    try clear hx9
    try clear qi9
    try clear p6
    try clear p9
    try clear q6
    try clear q9
    obtain ⟨kq, x17_1, rfl, HA, HJ1, BK213, HB⟩ := hcut
    cases kq with
    | zero => exact absurd HA.out (by simp [fuseeref07_Parse.j0])
    | succ kj1 =>
      have H := HA.out
      clear HA
      simp only [fuseeref07_Parse.j0] at H
      by_cases c10 : x17_1 = true
      · subst c10
        have H1 : (some (0, 0, 0, 3)) = some (r1, r2, r3, r4) := by rw [if_pos rfl] at H; exact H
        clear H
        have H := H1
        clear H1
        simp only [Option.some.injEq, Prod.mk.injEq] at H
        obtain ⟨rfl, rfl, rfl, rfl⟩ := H
        have hcz11_0 : wc.cell? ⟨gb213, 0, none⟩ = some (.int .i64 0) := (blk_cell BK213.out 0).trans rfl
        have hcz11_1 : wc.cell? ⟨gb213, 1, none⟩ = some (.int .i64 0) := (blk_cell BK213.out 1).trans rfl
        have hcz11_2 : wc.cell? ⟨gb213, 2, none⟩ = some (.int .i64 0) := (blk_cell BK213.out 2).trans rfl
        have hfz11_0 := blk_frozen BK213.out 0
        have hfz11_1 := blk_frozen BK213.out 1
        have hfz11_2 := blk_frozen BK213.out 2
        go_wp2
        refine bodyPost_ret (results_ct rfl _ _ gb213 23 #[.int .i64 0, .int .i64 0, .int .i64 0] (0, 0) _ rfl (by (with_reducible repeat (first | refine blk_drewN ?_ _ | refine blk_drew ?_ | refine blk_alloc ?_ _)); refine blk_put (cs := #[.int .i64 0, .int .i64 0, .int .i64 0]) ?_ 2 _ rfl; (with_reducible repeat (first | refine blk_drewN ?_ _ | refine blk_drew ?_ | refine blk_alloc ?_ _)); refine blk_put (cs := #[.int .i64 0, .int .i64 0, .int .i64 0]) ?_ 1 _ rfl; (with_reducible repeat (first | refine blk_drewN ?_ _ | refine blk_drew ?_ | refine blk_alloc ?_ _)); refine blk_put (cs := #[.int .i64 0, .int .i64 0, .int .i64 0]) ?_ 0 _ rfl; (with_reducible repeat (first | refine blk_drewN ?_ _ | refine blk_drew ?_ | refine blk_alloc ?_ _)); exact BK213.out) Tryz.underlying23 rfl (by kernel_rfl)) rfl ?_
        exact ⟨by first | rfl | (simp [errW_none, errW_some] <;> rfl) | (simp [*, errW_none, errW_some] <;> rfl), by repeat (first | (with_reducible first | exact HB.out | apply below_alloc | apply pw_below_drewN | apply below_drew1 | refine below_set ?_ GE213.out) | exact HB.out)⟩
      · replace c10 := Bool.eq_false_iff.mpr c10
        subst c10
        have H1 : (if 0 ≤ 4 then (if 4 ≤ (a0.size : Int) then ((fuseeref07_Digits.f kj1 (a0.extract 0 4)).bind fun t214 => (if 5 ≤ 7 then (if 7 ≤ (a0.size : Int) then ((fuseeref07_Digits.f kj1 (a0.extract 5 7)).bind fun t215 => (if 8 ≤ (a0.size : Int) then ((fuseeref07_Digits.f kj1 (a0.extract 8 a0.size)).bind fun t216 => ((fuseeref07_May.f kj1 t214 t215 t216).bind fun t218 => (if t218 = true then (some (t214, t215, t216, 0)) else (some (0, 0, 0, 3))))) else (none))) else (none)) else (none))) else (none)) else (none)) = some (r1, r2, r3, r4) := by rw [if_neg (show ¬ (false = true) by decide)] at H; exact H
        clear H
        have H := H1
        clear H1
        by_cases c12 : 0 ≤ 4
        · rw [if_pos c12] at H
          have c12b0 := eq_true c12
          have c12b1 : decide (0 ≤ 4) = true := decide_eq_true c12
          clear c12
          by_cases c13 : 4 ≤ (a0.size : Int)
          · rw [if_pos c13] at H
            have c13b0 := eq_true c13
            have c13b1 : decide (4 ≤ (a0.size : Int)) = true := decide_eq_true c13
            clear c13
            replace H := Option.bind_eq_some_iff.mp H
            obtain ⟨t214, A140, H⟩ := H
            try dsimp only at H
            have A14 := Aside0.mk A140
            clear A140
            by_cases c15 : 5 ≤ 7
            · rw [if_pos c15] at H
              have c15b0 := eq_true c15
              have c15b1 : decide (5 ≤ 7) = true := decide_eq_true c15
              clear c15
              by_cases c16 : 7 ≤ (a0.size : Int)
              · rw [if_pos c16] at H
                have c16b0 := eq_true c16
                have c16b1 : decide (7 ≤ (a0.size : Int)) = true := decide_eq_true c16
                clear c16
                replace H := Option.bind_eq_some_iff.mp H
                obtain ⟨t215, A170, H⟩ := H
                try dsimp only at H
                have A17 := Aside0.mk A170
                clear A170
                by_cases c18 : 8 ≤ (a0.size : Int)
                · rw [if_pos c18] at H
                  have c18b0 := eq_true c18
                  have c18b1 : decide (8 ≤ (a0.size : Int)) = true := decide_eq_true c18
                  clear c18
                  replace H := Option.bind_eq_some_iff.mp H
                  obtain ⟨t216, A190, H⟩ := H
                  try dsimp only at H
                  have A19 := Aside0.mk A190
                  clear A190
                  replace H := Option.bind_eq_some_iff.mp H
                  obtain ⟨t218, A200, H⟩ := H
                  try dsimp only at H
                  have A20 := Aside0.mk A200
                  clear A200
                  by_cases c21 : t218 = true
                  · subst c21
                    have H1 : (some (t214, t215, t216, 0)) = some (r1, r2, r3, r4) := by rw [if_pos rfl] at H; exact H
                    clear H
                    have H := H1
                    clear H1
                    simp only [Option.some.injEq, Prod.mk.injEq] at H
                    obtain ⟨rfl, rfl, rfl, rfl⟩ := H
                    try go_wp2
                    have n0_ := Aside0.mk (blk_drew BK213.out)
                    have n1_ := Aside0.mk (below_drew1 HB.out)
                    clear BK213
                    clear HB
                    have BK213 := n0_
                    have HB := n1_
                    clear n0_ n1_
                    refine start_ (n := 12) (S := fun w' => True) (ds := []) #[false, false, false, false, false, false, false, false, false, false, false, false] (by kernel_rfl) rfl rfl trivial (fun hHeld => ?_); refine with_tabW fuseeref07_Parse.tab3 fuseeref07_Parse.bits3 (fun HT_ HW_ => ?_)
                    generalize wc.drew = w22 at BK213 HB hHeld ⊢
                    refine pure_ (i := 0) (N := some 19) (v := ?_) (a' := ?_) #[true, false, false, false, false, false, false, false, false, false, false, false] rfl rfl (any_of HT_.out (by kernel_rfl)) (fun _ _ _ h => h) (Or.inl ⟨by rfl, ?_⟩) ?_ ?_
                    rotate_left
                    · intro w'
                      go_simp
                      with_reducible rfl
                    rotate_left
                    · simp only [Act.put, List.setIfInBounds_toArray, List.set_cons_zero, List.set_cons_succ, i64_w, i32_w]
                      rfl
                    refine pure_ (i := 1) (N := some 20) (v := ?_) (a' := ?_) #[true, true, false, false, false, false, false, false, false, false, false, false] rfl rfl (any_of HT_.out (by kernel_rfl)) (fun _ _ _ h => h) (Or.inl ⟨by rfl, ?_⟩) ?_ ?_
                    rotate_left
                    · intro w'
                      go_simp
                      with_reducible rfl
                    rotate_left
                    · simp only [Act.put, List.setIfInBounds_toArray, List.set_cons_zero, List.set_cons_succ, i64_w, i32_w]
                      rfl
                    refine pure_ (i := 3) (N := some 22) (v := ?_) (a' := ?_) #[true, true, false, true, false, false, false, false, false, false, false, false] rfl rfl (any_of HT_.out (by kernel_rfl)) (fun _ _ _ h => h) (Or.inl ⟨by rfl, ?_⟩) ?_ ?_
                    rotate_left
                    · intro w'
                      go_simp
                      with_reducible rfl
                    rotate_left
                    · simp only [Act.put, List.setIfInBounds_toArray, List.set_cons_zero, List.set_cons_succ, i64_w, i32_w]
                      rfl
                    refine pure_ (i := 4) (N := some 23) (v := ?_) (a' := ?_) #[true, true, false, true, true, false, false, false, false, false, false, false] rfl rfl (any_of HT_.out (by kernel_rfl)) (fun _ _ _ h => h) (Or.inl ⟨by rfl, ?_⟩) ?_ ?_
                    rotate_left
                    · intro w'
                      go_simp
                      with_reducible rfl
                    rotate_left
                    · simp only [Act.put, List.setIfInBounds_toArray, List.set_cons_zero, List.set_cons_succ, i64_w, i32_w]
                      rfl
                    refine pure_ (i := 6) (N := some 25) (v := ?_) (a' := ?_) #[true, true, false, true, true, false, true, false, false, false, false, false] rfl rfl (any_of HT_.out (by kernel_rfl)) (fun _ _ _ h => h) (Or.inl ⟨by rfl, ?_⟩) ?_ ?_
                    rotate_left
                    · intro w'
                      go_simp
                      with_reducible rfl
                    rotate_left
                    · simp only [Act.put, List.setIfInBounds_toArray, List.set_cons_zero, List.set_cons_succ, i64_w, i32_w]
                      rfl
                    refine pure_ (i := 7) (N := some 26) (v := ?_) (a' := ?_) #[true, true, false, true, true, false, true, true, false, false, false, false] rfl rfl (any_of HT_.out (by kernel_rfl)) (fun _ _ _ h => h) (Or.inl ⟨by rfl, ?_⟩) ?_ ?_
                    rotate_left
                    · intro w'
                      go_simp
                      with_reducible rfl
                    rotate_left
                    · simp only [Act.put, List.setIfInBounds_toArray, List.set_cons_zero, List.set_cons_succ, i64_w, i32_w]
                      rfl
                    refine join_ (σ := Nat) 1 #[true, true, true, true, true, true, true, true, true, true, true, false] (fun s_ => [(21, .int .i64 t214), (24, .int .i64 t215), (27, .int .i64 t216), (4, .pointer (some ⟨s_, 0, none⟩)), (28, .agg #[.int .i64 t214, .int .i64 t215, .int .i64 t216])]) (fun s_ w' => (w'.heap[gb213]? = some (.cells #[.int .i64 0, .int .i64 0, .int .i64 0] 23 (0, 0))) ∧ (w'.heap[s_]? = some (.cells #[.int .i64 0, .int .i64 0, .int .i64 0] 23 (0, 0))) ∧ (w.heap.size ≤ s_) ∧ (w.heap.size ≤ s_) ∧ (gb213 ≠ s_) ∧ (s_ ≠ gb213) ∧ (Below w.heap.size w w')) ?_ ?_
                    rotate_left
                    · intro hCont
                      refine two_ (i := 2) (j := 10) (Ni := some 21) (Nj := some 4) #[true, true, true, true, true, false, true, true, false, false, false, false] #[true, true, false, true, true, false, true, true, false, false, true, false] rfl rfl rfl rfl (two_of HT_.out (by kernel_rfl)) (by decide) (by decide) (fun K hK => ?_) (fun K hK => ?_)
                      · skip
                        refine goes_ Tryz.func98 (by kernel_rfl) rfl #[.string (a0.extract 0 4)] (by rfl) rfl rfl (by (try simp only [List.map_toArray, List.map_cons, List.map_nil]); first | done | rfl | (simp only [List.length_drop, List.length_take]; rfl)) ?_
                        with_reducible refine (fuseeref07_Digits.calls kj1 (a0.extract 0 4) t214 _ A14.out).mono ?_
                        rintro e w' ⟨rfl, ⟨nd, rfl⟩⟩
                        refine ⟨_, rfl, ?_⟩
                        refine hK.out _ _ trivial (fun hHeld => ?_)
                        clear hK K
                        refine norm_ (a' := ?_) ?_ ?_
                        rotate_left
                        · show Act.put _ (some 21) _ = _
                          simp only [Act.put, List.setIfInBounds_toArray, List.set_cons_zero, List.set_cons_succ, i64_w, i32_w]
                          rfl
                        refine two_ (i := 5) (j := 10) (Ni := some 24) (Nj := some 4) #[true, true, true, true, true, true, true, true, false, false, false, false] #[true, true, true, true, true, false, true, true, false, false, true, false] rfl rfl rfl rfl (two_of HT_.out (by kernel_rfl)) (by decide) (by decide) (fun K hK => ?_) (fun K hK => ?_)
                        · skip
                          refine goes_ Tryz.func98 (by kernel_rfl) rfl #[.string (a0.extract 5 7)] (by rfl) rfl rfl (by (try simp only [List.map_toArray, List.map_cons, List.map_nil]); first | done | rfl | (simp only [List.length_drop, List.length_take]; rfl)) ?_
                          with_reducible refine (fuseeref07_Digits.calls kj1 (a0.extract 5 7) t215 _ A17.out).mono ?_
                          rintro e w' ⟨rfl, ⟨nd, rfl⟩⟩
                          refine ⟨_, rfl, ?_⟩
                          refine hK.out _ _ trivial (fun hHeld => ?_)
                          clear hK K
                          refine norm_ (a' := ?_) ?_ ?_
                          rotate_left
                          · show Act.put _ (some 24) _ = _
                            simp only [Act.put, List.setIfInBounds_toArray, List.set_cons_zero, List.set_cons_succ, i64_w, i32_w]
                            rfl
                          refine two_ (i := 8) (j := 10) (Ni := some 27) (Nj := some 4) #[true, true, true, true, true, true, true, true, true, false, false, false] #[true, true, true, true, true, true, true, true, false, false, true, false] rfl rfl rfl rfl (two_of HT_.out (by kernel_rfl)) (by decide) (by decide) (fun K hK => ?_) (fun K hK => ?_)
                          · skip
                            refine goes_ Tryz.func98 (by kernel_rfl) rfl #[.string (a0.extract 8 a0.size)] (by rfl) rfl rfl (by (try simp only [List.map_toArray, List.map_cons, List.map_nil]); first | done | rfl | (simp only [List.length_drop, List.length_take]; rfl)) ?_
                            with_reducible refine (fuseeref07_Digits.calls kj1 (a0.extract 8 a0.size) t216 _ A19.out).mono ?_
                            rintro e w' ⟨rfl, ⟨nd, rfl⟩⟩
                            refine ⟨_, rfl, ?_⟩
                            refine hK.out _ _ trivial (fun hHeld => ?_)
                            clear hK K
                            refine norm_ (a' := ?_) ?_ ?_
                            rotate_left
                            · show Act.put _ (some 27) _ = _
                              simp only [Act.put, List.setIfInBounds_toArray, List.set_cons_zero, List.set_cons_succ, i64_w, i32_w]
                              rfl
                            refine pure_ (i := 9) (N := some 28) (v := ?_) (a' := ?_) #[true, true, true, true, true, true, true, true, true, true, false, false] rfl rfl (any_of HT_.out (by kernel_rfl)) (fun _ _ _ h => h) (Or.inl ⟨by rfl, ?_⟩) ?_ ?_
                            rotate_left
                            · intro w'
                              go_simp
                              with_reducible rfl
                            rotate_left
                            · simp only [Act.put, List.setIfInBounds_toArray, List.set_cons_zero, List.set_cons_succ, i64_w, i32_w]
                              rfl
                            refine one_ (i := 10) (N := some 4) #[true, true, true, true, true, true, true, true, true, true, true, false] rfl rfl (one_of HT_.out (by kernel_rfl)) (by decide) (fun K hK => ?_)
                            refine box_step ?hg (N := 4) ?hd (cs := #[.int .i64 0, .int .i64 0, .int .i64 0]) (t := 23) ?hr ?_; (case hd => rfl); (case hg => rfl); (case hr => first | (go_simp; done) | (go_simp; rfl))
                            intro gb217 hg w23 hbox hb
                            have n0_ := Aside0.mk (blk_below (g := gb213) (o := .cells #[.int .i64 0, .int .i64 0, .int .i64 0] 23 (0, 0)) (by (with_reducible repeat (first | refine blk_drewN ?_ _ | refine blk_drew ?_ | refine blk_alloc ?_ _)); exact BK213.out) hb)
                            have n1_ := Aside0.mk (below_step (by repeat (first | (with_reducible first | exact HB.out | apply below_alloc | apply pw_below_drewN | apply below_drew1 | refine below_set ?_ GE213.out) | exact HB.out)) hb)
                            have n2_ := Aside0.mk (hbox)
                            have n3_ := Aside0.mk ((by rw [hg]; exact (below_size (by repeat (first | (with_reducible first | exact HB.out | apply below_alloc | apply pw_below_drewN | apply below_drew1 | refine below_set ?_ GE213.out) | exact HB.out))) : w.heap.size ≤ gb217))
                            have n4_ := Aside0.mk ((by rw [hg]; exact (below_size (by repeat (first | (with_reducible first | exact HB.out | apply below_alloc | apply pw_below_drewN | apply below_drew1 | refine below_set ?_ GE213.out) | exact HB.out))) : w.heap.size ≤ gb217))
                            have n5_ := Aside0.mk ((by rw [hg]; exact Nat.ne_of_lt (blk_lt (g := gb213) (o := .cells #[.int .i64 0, .int .i64 0, .int .i64 0] 23 (0, 0)) (by (with_reducible repeat (first | refine blk_drewN ?_ _ | refine blk_drew ?_ | refine blk_alloc ?_ _)); exact BK213.out)) : gb213 ≠ gb217))
                            have n6_ := Aside0.mk ((by rw [hg]; exact Nat.ne_of_gt (blk_lt (g := gb213) (o := .cells #[.int .i64 0, .int .i64 0, .int .i64 0] 23 (0, 0)) (by (with_reducible repeat (first | refine blk_drewN ?_ _ | refine blk_drew ?_ | refine blk_alloc ?_ _)); exact BK213.out)) : gb217 ≠ gb213))
                            clear BK213
                            clear HB
                            have BK213 := n0_
                            have HB := n1_
                            have BK217 := n2_
                            have GW217 := n3_
                            have GE217 := n4_
                            have NB213_217 := n5_
                            have NB217_213 := n6_
                            clear n0_ n1_ n2_ n3_ n4_ n5_ n6_
                            clear hb hbox hg
                            refine hK.out _ _ trivial (fun hHeld => ?_)
                            clear hK K
                            refine norm_ (a' := ?_) ?_ ?_
                            rotate_left
                            · show Act.put _ (some 4) _ = _
                              simp only [Act.put, List.setIfInBounds_toArray, List.set_cons_zero, List.set_cons_succ, i64_w, i32_w]
                              rfl
                            exact norm_ (by simp only [putAll, Act.put, List.setIfInBounds_toArray, List.set_cons_zero, List.set_cons_succ]) (hCont (gb217) _ ⟨(by (with_reducible repeat (first | refine blk_drewN ?_ _ | refine blk_drew ?_ | refine blk_alloc ?_ _)); exact BK213.out), (by (with_reducible repeat (first | refine blk_drewN ?_ _ | refine blk_drew ?_ | refine blk_alloc ?_ _)); exact BK217.out), GW217.out, GE217.out, NB213_217.out, NB217_213.out, (by repeat (first | (with_reducible first | exact HB.out | apply below_alloc | apply pw_below_drewN | apply below_drew1 | refine below_set ?_ GE213.out | refine below_set ?_ GE217.out) | exact HB.out))⟩)
                          · skip
                            refine box_step ?hg (N := 4) ?hd (cs := #[.int .i64 0, .int .i64 0, .int .i64 0]) (t := 23) ?hr ?_; (case hd => rfl); (case hg => rfl); (case hr => first | (go_simp; done) | (go_simp; rfl))
                            intro gb217 hg w23 hbox hb
                            have n0_ := Aside0.mk (blk_below (g := gb213) (o := .cells #[.int .i64 0, .int .i64 0, .int .i64 0] 23 (0, 0)) (by (with_reducible repeat (first | refine blk_drewN ?_ _ | refine blk_drew ?_ | refine blk_alloc ?_ _)); exact BK213.out) hb)
                            have n1_ := Aside0.mk (below_step (by repeat (first | (with_reducible first | exact HB.out | apply below_alloc | apply pw_below_drewN | apply below_drew1 | refine below_set ?_ GE213.out) | exact HB.out)) hb)
                            have n2_ := Aside0.mk (hbox)
                            have n3_ := Aside0.mk ((by rw [hg]; exact (below_size (by repeat (first | (with_reducible first | exact HB.out | apply below_alloc | apply pw_below_drewN | apply below_drew1 | refine below_set ?_ GE213.out) | exact HB.out))) : w.heap.size ≤ gb217))
                            have n4_ := Aside0.mk ((by rw [hg]; exact (below_size (by repeat (first | (with_reducible first | exact HB.out | apply below_alloc | apply pw_below_drewN | apply below_drew1 | refine below_set ?_ GE213.out) | exact HB.out))) : w.heap.size ≤ gb217))
                            have n5_ := Aside0.mk ((by rw [hg]; exact Nat.ne_of_lt (blk_lt (g := gb213) (o := .cells #[.int .i64 0, .int .i64 0, .int .i64 0] 23 (0, 0)) (by (with_reducible repeat (first | refine blk_drewN ?_ _ | refine blk_drew ?_ | refine blk_alloc ?_ _)); exact BK213.out)) : gb213 ≠ gb217))
                            have n6_ := Aside0.mk ((by rw [hg]; exact Nat.ne_of_gt (blk_lt (g := gb213) (o := .cells #[.int .i64 0, .int .i64 0, .int .i64 0] 23 (0, 0)) (by (with_reducible repeat (first | refine blk_drewN ?_ _ | refine blk_drew ?_ | refine blk_alloc ?_ _)); exact BK213.out)) : gb217 ≠ gb213))
                            clear BK213
                            clear HB
                            have BK213 := n0_
                            have HB := n1_
                            have BK217 := n2_
                            have GW217 := n3_
                            have GE217 := n4_
                            have NB213_217 := n5_
                            have NB217_213 := n6_
                            clear n0_ n1_ n2_ n3_ n4_ n5_ n6_
                            clear hb hbox hg
                            refine hK.out _ _ trivial (fun hHeld => ?_)
                            clear hK K
                            refine norm_ (a' := ?_) ?_ ?_
                            rotate_left
                            · show Act.put _ (some 4) _ = _
                              simp only [Act.put, List.setIfInBounds_toArray, List.set_cons_zero, List.set_cons_succ, i64_w, i32_w]
                              rfl
                            refine one_ (i := 8) (N := some 27) #[true, true, true, true, true, true, true, true, true, false, true, false] rfl rfl (one_of HT_.out (by kernel_rfl)) (by decide) (fun K hK => ?_)
                            refine goes_ Tryz.func98 (by kernel_rfl) rfl #[.string (a0.extract 8 a0.size)] (by rfl) rfl rfl (by (try simp only [List.map_toArray, List.map_cons, List.map_nil]); first | done | rfl | (simp only [List.length_drop, List.length_take]; rfl)) ?_
                            with_reducible refine (fuseeref07_Digits.calls kj1 (a0.extract 8 a0.size) t216 _ A19.out).mono ?_
                            rintro e w' ⟨rfl, ⟨nd, rfl⟩⟩
                            refine ⟨_, rfl, ?_⟩
                            refine hK.out _ _ trivial (fun hHeld => ?_)
                            clear hK K
                            refine norm_ (a' := ?_) ?_ ?_
                            rotate_left
                            · show Act.put _ (some 27) _ = _
                              simp only [Act.put, List.setIfInBounds_toArray, List.set_cons_zero, List.set_cons_succ, i64_w, i32_w]
                              rfl
                            refine pure_ (i := 9) (N := some 28) (v := ?_) (a' := ?_) #[true, true, true, true, true, true, true, true, true, true, true, false] rfl rfl (any_of HT_.out (by kernel_rfl)) (fun _ _ _ h => h) (Or.inl ⟨by rfl, ?_⟩) ?_ ?_
                            rotate_left
                            · intro w'
                              go_simp
                              with_reducible rfl
                            rotate_left
                            · simp only [Act.put, List.setIfInBounds_toArray, List.set_cons_zero, List.set_cons_succ, i64_w, i32_w]
                              rfl
                            exact norm_ (by simp only [putAll, Act.put, List.setIfInBounds_toArray, List.set_cons_zero, List.set_cons_succ]) (hCont (gb217) _ ⟨(by (with_reducible repeat (first | refine blk_drewN ?_ _ | refine blk_drew ?_ | refine blk_alloc ?_ _)); exact BK213.out), (by (with_reducible repeat (first | refine blk_drewN ?_ _ | refine blk_drew ?_ | refine blk_alloc ?_ _)); exact BK217.out), GW217.out, GE217.out, NB213_217.out, NB217_213.out, (by repeat (first | (with_reducible first | exact HB.out | apply below_alloc | apply pw_below_drewN | apply below_drew1 | refine below_set ?_ GE213.out | refine below_set ?_ GE217.out) | exact HB.out))⟩)
                        · skip
                          refine box_step ?hg (N := 4) ?hd (cs := #[.int .i64 0, .int .i64 0, .int .i64 0]) (t := 23) ?hr ?_; (case hd => rfl); (case hg => rfl); (case hr => first | (go_simp; done) | (go_simp; rfl))
                          intro gb217 hg w23 hbox hb
                          have n0_ := Aside0.mk (blk_below (g := gb213) (o := .cells #[.int .i64 0, .int .i64 0, .int .i64 0] 23 (0, 0)) (by (with_reducible repeat (first | refine blk_drewN ?_ _ | refine blk_drew ?_ | refine blk_alloc ?_ _)); exact BK213.out) hb)
                          have n1_ := Aside0.mk (below_step (by repeat (first | (with_reducible first | exact HB.out | apply below_alloc | apply pw_below_drewN | apply below_drew1 | refine below_set ?_ GE213.out) | exact HB.out)) hb)
                          have n2_ := Aside0.mk (hbox)
                          have n3_ := Aside0.mk ((by rw [hg]; exact (below_size (by repeat (first | (with_reducible first | exact HB.out | apply below_alloc | apply pw_below_drewN | apply below_drew1 | refine below_set ?_ GE213.out) | exact HB.out))) : w.heap.size ≤ gb217))
                          have n4_ := Aside0.mk ((by rw [hg]; exact (below_size (by repeat (first | (with_reducible first | exact HB.out | apply below_alloc | apply pw_below_drewN | apply below_drew1 | refine below_set ?_ GE213.out) | exact HB.out))) : w.heap.size ≤ gb217))
                          have n5_ := Aside0.mk ((by rw [hg]; exact Nat.ne_of_lt (blk_lt (g := gb213) (o := .cells #[.int .i64 0, .int .i64 0, .int .i64 0] 23 (0, 0)) (by (with_reducible repeat (first | refine blk_drewN ?_ _ | refine blk_drew ?_ | refine blk_alloc ?_ _)); exact BK213.out)) : gb213 ≠ gb217))
                          have n6_ := Aside0.mk ((by rw [hg]; exact Nat.ne_of_gt (blk_lt (g := gb213) (o := .cells #[.int .i64 0, .int .i64 0, .int .i64 0] 23 (0, 0)) (by (with_reducible repeat (first | refine blk_drewN ?_ _ | refine blk_drew ?_ | refine blk_alloc ?_ _)); exact BK213.out)) : gb217 ≠ gb213))
                          clear BK213
                          clear HB
                          have BK213 := n0_
                          have HB := n1_
                          have BK217 := n2_
                          have GW217 := n3_
                          have GE217 := n4_
                          have NB213_217 := n5_
                          have NB217_213 := n6_
                          clear n0_ n1_ n2_ n3_ n4_ n5_ n6_
                          clear hb hbox hg
                          refine hK.out _ _ trivial (fun hHeld => ?_)
                          clear hK K
                          refine norm_ (a' := ?_) ?_ ?_
                          rotate_left
                          · show Act.put _ (some 4) _ = _
                            simp only [Act.put, List.setIfInBounds_toArray, List.set_cons_zero, List.set_cons_succ, i64_w, i32_w]
                            rfl
                          refine one_ (i := 5) (N := some 24) #[true, true, true, true, true, true, true, true, false, false, true, false] rfl rfl (one_of HT_.out (by kernel_rfl)) (by decide) (fun K hK => ?_)
                          refine goes_ Tryz.func98 (by kernel_rfl) rfl #[.string (a0.extract 5 7)] (by rfl) rfl rfl (by (try simp only [List.map_toArray, List.map_cons, List.map_nil]); first | done | rfl | (simp only [List.length_drop, List.length_take]; rfl)) ?_
                          with_reducible refine (fuseeref07_Digits.calls kj1 (a0.extract 5 7) t215 _ A17.out).mono ?_
                          rintro e w' ⟨rfl, ⟨nd, rfl⟩⟩
                          refine ⟨_, rfl, ?_⟩
                          refine hK.out _ _ trivial (fun hHeld => ?_)
                          clear hK K
                          refine norm_ (a' := ?_) ?_ ?_
                          rotate_left
                          · show Act.put _ (some 24) _ = _
                            simp only [Act.put, List.setIfInBounds_toArray, List.set_cons_zero, List.set_cons_succ, i64_w, i32_w]
                            rfl
                          refine one_ (i := 8) (N := some 27) #[true, true, true, true, true, true, true, true, true, false, true, false] rfl rfl (one_of HT_.out (by kernel_rfl)) (by decide) (fun K hK => ?_)
                          refine goes_ Tryz.func98 (by kernel_rfl) rfl #[.string (a0.extract 8 a0.size)] (by rfl) rfl rfl (by (try simp only [List.map_toArray, List.map_cons, List.map_nil]); first | done | rfl | (simp only [List.length_drop, List.length_take]; rfl)) ?_
                          with_reducible refine (fuseeref07_Digits.calls kj1 (a0.extract 8 a0.size) t216 _ A19.out).mono ?_
                          rintro e w' ⟨rfl, ⟨nd, rfl⟩⟩
                          refine ⟨_, rfl, ?_⟩
                          refine hK.out _ _ trivial (fun hHeld => ?_)
                          clear hK K
                          refine norm_ (a' := ?_) ?_ ?_
                          rotate_left
                          · show Act.put _ (some 27) _ = _
                            simp only [Act.put, List.setIfInBounds_toArray, List.set_cons_zero, List.set_cons_succ, i64_w, i32_w]
                            rfl
                          refine pure_ (i := 9) (N := some 28) (v := ?_) (a' := ?_) #[true, true, true, true, true, true, true, true, true, true, true, false] rfl rfl (any_of HT_.out (by kernel_rfl)) (fun _ _ _ h => h) (Or.inl ⟨by rfl, ?_⟩) ?_ ?_
                          rotate_left
                          · intro w'
                            go_simp
                            with_reducible rfl
                          rotate_left
                          · simp only [Act.put, List.setIfInBounds_toArray, List.set_cons_zero, List.set_cons_succ, i64_w, i32_w]
                            rfl
                          exact norm_ (by simp only [putAll, Act.put, List.setIfInBounds_toArray, List.set_cons_zero, List.set_cons_succ]) (hCont (gb217) _ ⟨(by (with_reducible repeat (first | refine blk_drewN ?_ _ | refine blk_drew ?_ | refine blk_alloc ?_ _)); exact BK213.out), (by (with_reducible repeat (first | refine blk_drewN ?_ _ | refine blk_drew ?_ | refine blk_alloc ?_ _)); exact BK217.out), GW217.out, GE217.out, NB213_217.out, NB217_213.out, (by repeat (first | (with_reducible first | exact HB.out | apply below_alloc | apply pw_below_drewN | apply below_drew1 | refine below_set ?_ GE213.out | refine below_set ?_ GE217.out) | exact HB.out))⟩)
                      · skip
                        refine box_step ?hg (N := 4) ?hd (cs := #[.int .i64 0, .int .i64 0, .int .i64 0]) (t := 23) ?hr ?_; (case hd => rfl); (case hg => rfl); (case hr => first | (go_simp; done) | (go_simp; rfl))
                        intro gb217 hg w23 hbox hb
                        have n0_ := Aside0.mk (blk_below (g := gb213) (o := .cells #[.int .i64 0, .int .i64 0, .int .i64 0] 23 (0, 0)) (by (with_reducible repeat (first | refine blk_drewN ?_ _ | refine blk_drew ?_ | refine blk_alloc ?_ _)); exact BK213.out) hb)
                        have n1_ := Aside0.mk (below_step (by repeat (first | (with_reducible first | exact HB.out | apply below_alloc | apply pw_below_drewN | apply below_drew1 | refine below_set ?_ GE213.out) | exact HB.out)) hb)
                        have n2_ := Aside0.mk (hbox)
                        have n3_ := Aside0.mk ((by rw [hg]; exact (below_size (by repeat (first | (with_reducible first | exact HB.out | apply below_alloc | apply pw_below_drewN | apply below_drew1 | refine below_set ?_ GE213.out) | exact HB.out))) : w.heap.size ≤ gb217))
                        have n4_ := Aside0.mk ((by rw [hg]; exact (below_size (by repeat (first | (with_reducible first | exact HB.out | apply below_alloc | apply pw_below_drewN | apply below_drew1 | refine below_set ?_ GE213.out) | exact HB.out))) : w.heap.size ≤ gb217))
                        have n5_ := Aside0.mk ((by rw [hg]; exact Nat.ne_of_lt (blk_lt (g := gb213) (o := .cells #[.int .i64 0, .int .i64 0, .int .i64 0] 23 (0, 0)) (by (with_reducible repeat (first | refine blk_drewN ?_ _ | refine blk_drew ?_ | refine blk_alloc ?_ _)); exact BK213.out)) : gb213 ≠ gb217))
                        have n6_ := Aside0.mk ((by rw [hg]; exact Nat.ne_of_gt (blk_lt (g := gb213) (o := .cells #[.int .i64 0, .int .i64 0, .int .i64 0] 23 (0, 0)) (by (with_reducible repeat (first | refine blk_drewN ?_ _ | refine blk_drew ?_ | refine blk_alloc ?_ _)); exact BK213.out)) : gb217 ≠ gb213))
                        clear BK213
                        clear HB
                        have BK213 := n0_
                        have HB := n1_
                        have BK217 := n2_
                        have GW217 := n3_
                        have GE217 := n4_
                        have NB213_217 := n5_
                        have NB217_213 := n6_
                        clear n0_ n1_ n2_ n3_ n4_ n5_ n6_
                        clear hb hbox hg
                        refine hK.out _ _ trivial (fun hHeld => ?_)
                        clear hK K
                        refine norm_ (a' := ?_) ?_ ?_
                        rotate_left
                        · show Act.put _ (some 4) _ = _
                          simp only [Act.put, List.setIfInBounds_toArray, List.set_cons_zero, List.set_cons_succ, i64_w, i32_w]
                          rfl
                        refine one_ (i := 2) (N := some 21) #[true, true, true, true, true, false, true, true, false, false, true, false] rfl rfl (one_of HT_.out (by kernel_rfl)) (by decide) (fun K hK => ?_)
                        refine goes_ Tryz.func98 (by kernel_rfl) rfl #[.string (a0.extract 0 4)] (by rfl) rfl rfl (by (try simp only [List.map_toArray, List.map_cons, List.map_nil]); first | done | rfl | (simp only [List.length_drop, List.length_take]; rfl)) ?_
                        with_reducible refine (fuseeref07_Digits.calls kj1 (a0.extract 0 4) t214 _ A14.out).mono ?_
                        rintro e w' ⟨rfl, ⟨nd, rfl⟩⟩
                        refine ⟨_, rfl, ?_⟩
                        refine hK.out _ _ trivial (fun hHeld => ?_)
                        clear hK K
                        refine norm_ (a' := ?_) ?_ ?_
                        rotate_left
                        · show Act.put _ (some 21) _ = _
                          simp only [Act.put, List.setIfInBounds_toArray, List.set_cons_zero, List.set_cons_succ, i64_w, i32_w]
                          rfl
                        refine one_ (i := 5) (N := some 24) #[true, true, true, true, true, true, true, true, false, false, true, false] rfl rfl (one_of HT_.out (by kernel_rfl)) (by decide) (fun K hK => ?_)
                        refine goes_ Tryz.func98 (by kernel_rfl) rfl #[.string (a0.extract 5 7)] (by rfl) rfl rfl (by (try simp only [List.map_toArray, List.map_cons, List.map_nil]); first | done | rfl | (simp only [List.length_drop, List.length_take]; rfl)) ?_
                        with_reducible refine (fuseeref07_Digits.calls kj1 (a0.extract 5 7) t215 _ A17.out).mono ?_
                        rintro e w' ⟨rfl, ⟨nd, rfl⟩⟩
                        refine ⟨_, rfl, ?_⟩
                        refine hK.out _ _ trivial (fun hHeld => ?_)
                        clear hK K
                        refine norm_ (a' := ?_) ?_ ?_
                        rotate_left
                        · show Act.put _ (some 24) _ = _
                          simp only [Act.put, List.setIfInBounds_toArray, List.set_cons_zero, List.set_cons_succ, i64_w, i32_w]
                          rfl
                        refine one_ (i := 8) (N := some 27) #[true, true, true, true, true, true, true, true, true, false, true, false] rfl rfl (one_of HT_.out (by kernel_rfl)) (by decide) (fun K hK => ?_)
                        refine goes_ Tryz.func98 (by kernel_rfl) rfl #[.string (a0.extract 8 a0.size)] (by rfl) rfl rfl (by (try simp only [List.map_toArray, List.map_cons, List.map_nil]); first | done | rfl | (simp only [List.length_drop, List.length_take]; rfl)) ?_
                        with_reducible refine (fuseeref07_Digits.calls kj1 (a0.extract 8 a0.size) t216 _ A19.out).mono ?_
                        rintro e w' ⟨rfl, ⟨nd, rfl⟩⟩
                        refine ⟨_, rfl, ?_⟩
                        refine hK.out _ _ trivial (fun hHeld => ?_)
                        clear hK K
                        refine norm_ (a' := ?_) ?_ ?_
                        rotate_left
                        · show Act.put _ (some 27) _ = _
                          simp only [Act.put, List.setIfInBounds_toArray, List.set_cons_zero, List.set_cons_succ, i64_w, i32_w]
                          rfl
                        refine pure_ (i := 9) (N := some 28) (v := ?_) (a' := ?_) #[true, true, true, true, true, true, true, true, true, true, true, false] rfl rfl (any_of HT_.out (by kernel_rfl)) (fun _ _ _ h => h) (Or.inl ⟨by rfl, ?_⟩) ?_ ?_
                        rotate_left
                        · intro w'
                          go_simp
                          with_reducible rfl
                        rotate_left
                        · simp only [Act.put, List.setIfInBounds_toArray, List.set_cons_zero, List.set_cons_succ, i64_w, i32_w]
                          rfl
                        exact norm_ (by simp only [putAll, Act.put, List.setIfInBounds_toArray, List.set_cons_zero, List.set_cons_succ]) (hCont (gb217) _ ⟨(by (with_reducible repeat (first | refine blk_drewN ?_ _ | refine blk_drew ?_ | refine blk_alloc ?_ _)); exact BK213.out), (by (with_reducible repeat (first | refine blk_drewN ?_ _ | refine blk_drew ?_ | refine blk_alloc ?_ _)); exact BK217.out), GW217.out, GE217.out, NB213_217.out, NB217_213.out, (by repeat (first | (with_reducible first | exact HB.out | apply below_alloc | apply pw_below_drewN | apply below_drew1 | refine below_set ?_ GE213.out | refine below_set ?_ GE217.out) | exact HB.out))⟩)
                    rintro gb217 w24 ⟨h0_, h1_, h2_, h3_, h4_, h5_, h6_⟩
                    have n0_ : Aside0 (w24.heap[gb213]? = some (.cells #[.int .i64 0, .int .i64 0, .int .i64 0] 23 (0, 0))) := ⟨h0_⟩
                    have n1_ : Aside0 (w24.heap[gb217]? = some (.cells #[.int .i64 0, .int .i64 0, .int .i64 0] 23 (0, 0))) := ⟨h1_⟩
                    have n2_ : Aside0 (w.heap.size ≤ gb217) := ⟨h2_⟩
                    have n3_ : Aside0 (w.heap.size ≤ gb217) := ⟨h3_⟩
                    have n4_ : Aside0 (gb213 ≠ gb217) := ⟨h4_⟩
                    have n5_ : Aside0 (gb217 ≠ gb213) := ⟨h5_⟩
                    have n6_ : Aside0 (Below w.heap.size w w24) := ⟨h6_⟩
                    clear BK213
                    clear HB
                    clear h0_ h1_ h2_ h3_ h4_ h5_ h6_
                    have BK213 := n0_
                    have BK217 := n1_
                    have GW217 := n2_
                    have GE217 := n3_
                    have NB213_217 := n4_
                    have NB217_213 := n5_
                    have HB := n6_
                    clear n0_ n1_ n2_ n3_ n4_ n5_ n6_
                    have hHeld := trivial
                    refine norm_ (a' := ?_) ?_ ?_
                    rotate_left
                    · simp only [putAll, Act.put, List.setIfInBounds_toArray, List.set_cons_zero, List.set_cons_succ]
                      rfl
                    refine one_ (i := 11) (N := none) #[true, true, true, true, true, true, true, true, true, true, true, true] rfl rfl (one_of HT_.out (by kernel_rfl)) (by decide) (fun K hK => ?_)
                    have hs25 : w24.cell? ⟨gb217, 0, none⟩ = some (.int .i64 0) := (blk_cell BK217.out 0).trans rfl
                    have hfs25 := blk_frozen BK217.out 0
                    have hns25_0 := NB213_217.out
                    have hms25_0 := NB217_213.out
                    have hs26 : w24.cell? ⟨gb217, 1, none⟩ = some (.int .i64 0) := (blk_cell BK217.out 1).trans rfl
                    have hfs26 := blk_frozen BK217.out 1
                    have hns26_0 := NB213_217.out
                    have hms26_0 := NB217_213.out
                    have hs27 : w24.cell? ⟨gb217, 2, none⟩ = some (.int .i64 0) := (blk_cell BK217.out 2).trans rfl
                    have hfs27 := blk_frozen BK217.out 2
                    have hns27_0 := NB213_217.out
                    have hms27_0 := NB217_213.out
                    refine skip_ (w1 := ?_) (by rfl) rfl ?_ ?_
                    rotate_left
                    · go_simp
                      rfl
                    refine hK.out _ _ trivial (fun hHeld => ?_)
                    clear hK K
                    refine done_ (done_of HT_.out (by kernel_rfl)) ?_
                    have hnb28 := NB217_213.out
                    have hnc28 := NB213_217.out
                    have hcz29_0 : w24.cell? ⟨gb217, 0, none⟩ = some (.int .i64 0) := (blk_cell BK217.out 0).trans rfl
                    have hcz29_1 : w24.cell? ⟨gb217, 1, none⟩ = some (.int .i64 0) := (blk_cell BK217.out 1).trans rfl
                    have hcz29_2 : w24.cell? ⟨gb217, 2, none⟩ = some (.int .i64 0) := (blk_cell BK217.out 2).trans rfl
                    have hfz29_0 := blk_frozen BK217.out 0
                    have hfz29_1 := blk_frozen BK217.out 1
                    have hfz29_2 := blk_frozen BK217.out 2
                    try go_wp2_with (first | ((with_reducible refine gate_callee (f := 14) rfl ?_); refine goesL_ (some 30) rfl rfl Tryz.func14 (by kernel_rfl) rfl #[.agg #[.int .i64 t214, .int .i64 t215, .int .i64 t216]] rfl (by (try simp only [List.map_toArray, List.map_cons, List.map_nil]); first | done | rfl | (simp only [List.length_drop, List.length_take]; rfl)) ?_; (with_reducible refine (fuseeref07_May.calls kj1 t214 t215 t216 true _ A20.out).mono ?_); rintro e w30 ⟨rfl, hb⟩; refine ⟨_, rfl, ?_⟩; have n0_ := Aside0.mk (blk_below (g := gb213) (o := .cells #[.int .i64 0, .int .i64 0, .int .i64 0] 23 (0, 0)) (by (with_reducible repeat (first | refine blk_drewN ?_ _ | refine blk_drew ?_ | refine blk_alloc ?_ _)); refine blk_far ?_ NB213_217.out _; (with_reducible repeat (first | refine blk_drewN ?_ _ | refine blk_drew ?_ | refine blk_alloc ?_ _)); refine blk_far ?_ NB213_217.out _; (with_reducible repeat (first | refine blk_drewN ?_ _ | refine blk_drew ?_ | refine blk_alloc ?_ _)); refine blk_far ?_ NB213_217.out _; (with_reducible repeat (first | refine blk_drewN ?_ _ | refine blk_drew ?_ | refine blk_alloc ?_ _)); exact BK213.out) hb); have n1_ := Aside0.mk (blk_below (g := gb217) (o := .cells #[.int .i64 t214, .int .i64 t215, .int .i64 t216] 23 (0, 0)) (by (with_reducible repeat (first | refine blk_drewN ?_ _ | refine blk_drew ?_ | refine blk_alloc ?_ _)); refine blk_put (cs := #[.int .i64 t214, .int .i64 t215, .int .i64 0]) ?_ 2 _ rfl; (with_reducible repeat (first | refine blk_drewN ?_ _ | refine blk_drew ?_ | refine blk_alloc ?_ _)); refine blk_put (cs := #[.int .i64 t214, .int .i64 0, .int .i64 0]) ?_ 1 _ rfl; (with_reducible repeat (first | refine blk_drewN ?_ _ | refine blk_drew ?_ | refine blk_alloc ?_ _)); refine blk_put (cs := #[.int .i64 0, .int .i64 0, .int .i64 0]) ?_ 0 _ rfl; (with_reducible repeat (first | refine blk_drewN ?_ _ | refine blk_drew ?_ | refine blk_alloc ?_ _)); exact BK217.out) hb); have n2_ := Aside0.mk (below_step (by repeat (first | (with_reducible first | exact HB.out | apply below_alloc | apply pw_below_drewN | apply below_drew1 | refine below_set ?_ GE213.out | refine below_set ?_ GE217.out) | exact HB.out)) hb); clear BK213; clear BK217; clear HB; have BK213 := n0_; have BK217 := n1_; have HB := n2_; clear n0_ n1_ n2_; (try clear hb); (try clear hb2); (try clear hk); (try clear hi); have hcz31_0 : w30.cell? ⟨gb217, 0, none⟩ = some (.int .i64 t214) := (blk_cell BK217.out 0).trans rfl; have hcz31_1 : w30.cell? ⟨gb217, 1, none⟩ = some (.int .i64 t215) := (blk_cell BK217.out 1).trans rfl; have hcz31_2 : w30.cell? ⟨gb217, 2, none⟩ = some (.int .i64 t216) := (blk_cell BK217.out 2).trans rfl; have hfz31_0 := blk_frozen BK217.out 0; have hfz31_1 := blk_frozen BK217.out 1; have hfz31_2 := blk_frozen BK217.out 2; have hcz32_0 : w30.cell? ⟨gb213, 0, none⟩ = some (.int .i64 0) := (blk_cell BK213.out 0).trans rfl; have hcz32_1 : w30.cell? ⟨gb213, 1, none⟩ = some (.int .i64 0) := (blk_cell BK213.out 1).trans rfl; have hcz32_2 : w30.cell? ⟨gb213, 2, none⟩ = some (.int .i64 0) := (blk_cell BK213.out 2).trans rfl; have hfz32_0 := blk_frozen BK213.out 0; have hfz32_1 := blk_frozen BK213.out 1; have hfz32_2 := blk_frozen BK213.out 2))
                    refine bodyPost_ret (results_ct rfl _ _ gb213 23 #[.int .i64 t214, .int .i64 t215, .int .i64 t216] (0, 0) _ rfl (by (with_reducible repeat (first | refine blk_drewN ?_ _ | refine blk_drew ?_ | refine blk_alloc ?_ _)); refine blk_put (cs := #[.int .i64 t214, .int .i64 t215, .int .i64 0]) ?_ 2 _ rfl; (with_reducible repeat (first | refine blk_drewN ?_ _ | refine blk_drew ?_ | refine blk_alloc ?_ _)); refine blk_put (cs := #[.int .i64 t214, .int .i64 0, .int .i64 0]) ?_ 1 _ rfl; (with_reducible repeat (first | refine blk_drewN ?_ _ | refine blk_drew ?_ | refine blk_alloc ?_ _)); refine blk_put (cs := #[.int .i64 0, .int .i64 0, .int .i64 0]) ?_ 0 _ rfl; (with_reducible repeat (first | refine blk_drewN ?_ _ | refine blk_drew ?_ | refine blk_alloc ?_ _)); exact BK213.out) Tryz.underlying23 rfl (by kernel_rfl)) rfl ?_
                    exact ⟨by first | rfl | (simp [errW_none, errW_some] <;> rfl) | (simp [*, errW_none, errW_some] <;> rfl), by repeat (first | (with_reducible first | exact HB.out | apply below_alloc | apply pw_below_drewN | apply below_drew1 | refine below_set ?_ GE213.out | refine below_set ?_ GE217.out) | exact HB.out)⟩
                  · replace c21 := Bool.eq_false_iff.mpr c21
                    subst c21
                    have H1 : (some (0, 0, 0, 3)) = some (r1, r2, r3, r4) := by rw [if_neg (show ¬ (false = true) by decide)] at H; exact H
                    clear H
                    have H := H1
                    clear H1
                    simp only [Option.some.injEq, Prod.mk.injEq] at H
                    obtain ⟨rfl, rfl, rfl, rfl⟩ := H
                    try go_wp2
                    have n0_ := Aside0.mk (blk_drew BK213.out)
                    have n1_ := Aside0.mk (below_drew1 HB.out)
                    clear BK213
                    clear HB
                    have BK213 := n0_
                    have HB := n1_
                    clear n0_ n1_
                    refine start_ (n := 12) (S := fun w' => True) (ds := []) #[false, false, false, false, false, false, false, false, false, false, false, false] (by kernel_rfl) rfl rfl trivial (fun hHeld => ?_); refine with_tabW fuseeref07_Parse.tab3 fuseeref07_Parse.bits3 (fun HT_ HW_ => ?_)
                    generalize wc.drew = w33 at BK213 HB hHeld ⊢
                    refine pure_ (i := 0) (N := some 19) (v := ?_) (a' := ?_) #[true, false, false, false, false, false, false, false, false, false, false, false] rfl rfl (any_of HT_.out (by kernel_rfl)) (fun _ _ _ h => h) (Or.inl ⟨by rfl, ?_⟩) ?_ ?_
                    rotate_left
                    · intro w'
                      go_simp
                      with_reducible rfl
                    rotate_left
                    · simp only [Act.put, List.setIfInBounds_toArray, List.set_cons_zero, List.set_cons_succ, i64_w, i32_w]
                      rfl
                    refine pure_ (i := 1) (N := some 20) (v := ?_) (a' := ?_) #[true, true, false, false, false, false, false, false, false, false, false, false] rfl rfl (any_of HT_.out (by kernel_rfl)) (fun _ _ _ h => h) (Or.inl ⟨by rfl, ?_⟩) ?_ ?_
                    rotate_left
                    · intro w'
                      go_simp
                      with_reducible rfl
                    rotate_left
                    · simp only [Act.put, List.setIfInBounds_toArray, List.set_cons_zero, List.set_cons_succ, i64_w, i32_w]
                      rfl
                    refine pure_ (i := 3) (N := some 22) (v := ?_) (a' := ?_) #[true, true, false, true, false, false, false, false, false, false, false, false] rfl rfl (any_of HT_.out (by kernel_rfl)) (fun _ _ _ h => h) (Or.inl ⟨by rfl, ?_⟩) ?_ ?_
                    rotate_left
                    · intro w'
                      go_simp
                      with_reducible rfl
                    rotate_left
                    · simp only [Act.put, List.setIfInBounds_toArray, List.set_cons_zero, List.set_cons_succ, i64_w, i32_w]
                      rfl
                    refine pure_ (i := 4) (N := some 23) (v := ?_) (a' := ?_) #[true, true, false, true, true, false, false, false, false, false, false, false] rfl rfl (any_of HT_.out (by kernel_rfl)) (fun _ _ _ h => h) (Or.inl ⟨by rfl, ?_⟩) ?_ ?_
                    rotate_left
                    · intro w'
                      go_simp
                      with_reducible rfl
                    rotate_left
                    · simp only [Act.put, List.setIfInBounds_toArray, List.set_cons_zero, List.set_cons_succ, i64_w, i32_w]
                      rfl
                    refine pure_ (i := 6) (N := some 25) (v := ?_) (a' := ?_) #[true, true, false, true, true, false, true, false, false, false, false, false] rfl rfl (any_of HT_.out (by kernel_rfl)) (fun _ _ _ h => h) (Or.inl ⟨by rfl, ?_⟩) ?_ ?_
                    rotate_left
                    · intro w'
                      go_simp
                      with_reducible rfl
                    rotate_left
                    · simp only [Act.put, List.setIfInBounds_toArray, List.set_cons_zero, List.set_cons_succ, i64_w, i32_w]
                      rfl
                    refine pure_ (i := 7) (N := some 26) (v := ?_) (a' := ?_) #[true, true, false, true, true, false, true, true, false, false, false, false] rfl rfl (any_of HT_.out (by kernel_rfl)) (fun _ _ _ h => h) (Or.inl ⟨by rfl, ?_⟩) ?_ ?_
                    rotate_left
                    · intro w'
                      go_simp
                      with_reducible rfl
                    rotate_left
                    · simp only [Act.put, List.setIfInBounds_toArray, List.set_cons_zero, List.set_cons_succ, i64_w, i32_w]
                      rfl
                    refine join_ (σ := Nat) 1 #[true, true, true, true, true, true, true, true, true, true, true, false] (fun s_ => [(21, .int .i64 t214), (24, .int .i64 t215), (27, .int .i64 t216), (4, .pointer (some ⟨s_, 0, none⟩)), (28, .agg #[.int .i64 t214, .int .i64 t215, .int .i64 t216])]) (fun s_ w' => (w'.heap[gb213]? = some (.cells #[.int .i64 0, .int .i64 0, .int .i64 0] 23 (0, 0))) ∧ (w'.heap[s_]? = some (.cells #[.int .i64 0, .int .i64 0, .int .i64 0] 23 (0, 0))) ∧ (w.heap.size ≤ s_) ∧ (w.heap.size ≤ s_) ∧ (gb213 ≠ s_) ∧ (s_ ≠ gb213) ∧ (Below w.heap.size w w')) ?_ ?_
                    rotate_left
                    · intro hCont
                      refine two_ (i := 2) (j := 10) (Ni := some 21) (Nj := some 4) #[true, true, true, true, true, false, true, true, false, false, false, false] #[true, true, false, true, true, false, true, true, false, false, true, false] rfl rfl rfl rfl (two_of HT_.out (by kernel_rfl)) (by decide) (by decide) (fun K hK => ?_) (fun K hK => ?_)
                      · skip
                        refine goes_ Tryz.func98 (by kernel_rfl) rfl #[.string (a0.extract 0 4)] (by rfl) rfl rfl (by (try simp only [List.map_toArray, List.map_cons, List.map_nil]); first | done | rfl | (simp only [List.length_drop, List.length_take]; rfl)) ?_
                        with_reducible refine (fuseeref07_Digits.calls kj1 (a0.extract 0 4) t214 _ A14.out).mono ?_
                        rintro e w' ⟨rfl, ⟨nd, rfl⟩⟩
                        refine ⟨_, rfl, ?_⟩
                        refine hK.out _ _ trivial (fun hHeld => ?_)
                        clear hK K
                        refine norm_ (a' := ?_) ?_ ?_
                        rotate_left
                        · show Act.put _ (some 21) _ = _
                          simp only [Act.put, List.setIfInBounds_toArray, List.set_cons_zero, List.set_cons_succ, i64_w, i32_w]
                          rfl
                        refine two_ (i := 5) (j := 10) (Ni := some 24) (Nj := some 4) #[true, true, true, true, true, true, true, true, false, false, false, false] #[true, true, true, true, true, false, true, true, false, false, true, false] rfl rfl rfl rfl (two_of HT_.out (by kernel_rfl)) (by decide) (by decide) (fun K hK => ?_) (fun K hK => ?_)
                        · skip
                          refine goes_ Tryz.func98 (by kernel_rfl) rfl #[.string (a0.extract 5 7)] (by rfl) rfl rfl (by (try simp only [List.map_toArray, List.map_cons, List.map_nil]); first | done | rfl | (simp only [List.length_drop, List.length_take]; rfl)) ?_
                          with_reducible refine (fuseeref07_Digits.calls kj1 (a0.extract 5 7) t215 _ A17.out).mono ?_
                          rintro e w' ⟨rfl, ⟨nd, rfl⟩⟩
                          refine ⟨_, rfl, ?_⟩
                          refine hK.out _ _ trivial (fun hHeld => ?_)
                          clear hK K
                          refine norm_ (a' := ?_) ?_ ?_
                          rotate_left
                          · show Act.put _ (some 24) _ = _
                            simp only [Act.put, List.setIfInBounds_toArray, List.set_cons_zero, List.set_cons_succ, i64_w, i32_w]
                            rfl
                          refine two_ (i := 8) (j := 10) (Ni := some 27) (Nj := some 4) #[true, true, true, true, true, true, true, true, true, false, false, false] #[true, true, true, true, true, true, true, true, false, false, true, false] rfl rfl rfl rfl (two_of HT_.out (by kernel_rfl)) (by decide) (by decide) (fun K hK => ?_) (fun K hK => ?_)
                          · skip
                            refine goes_ Tryz.func98 (by kernel_rfl) rfl #[.string (a0.extract 8 a0.size)] (by rfl) rfl rfl (by (try simp only [List.map_toArray, List.map_cons, List.map_nil]); first | done | rfl | (simp only [List.length_drop, List.length_take]; rfl)) ?_
                            with_reducible refine (fuseeref07_Digits.calls kj1 (a0.extract 8 a0.size) t216 _ A19.out).mono ?_
                            rintro e w' ⟨rfl, ⟨nd, rfl⟩⟩
                            refine ⟨_, rfl, ?_⟩
                            refine hK.out _ _ trivial (fun hHeld => ?_)
                            clear hK K
                            refine norm_ (a' := ?_) ?_ ?_
                            rotate_left
                            · show Act.put _ (some 27) _ = _
                              simp only [Act.put, List.setIfInBounds_toArray, List.set_cons_zero, List.set_cons_succ, i64_w, i32_w]
                              rfl
                            refine pure_ (i := 9) (N := some 28) (v := ?_) (a' := ?_) #[true, true, true, true, true, true, true, true, true, true, false, false] rfl rfl (any_of HT_.out (by kernel_rfl)) (fun _ _ _ h => h) (Or.inl ⟨by rfl, ?_⟩) ?_ ?_
                            rotate_left
                            · intro w'
                              go_simp
                              with_reducible rfl
                            rotate_left
                            · simp only [Act.put, List.setIfInBounds_toArray, List.set_cons_zero, List.set_cons_succ, i64_w, i32_w]
                              rfl
                            refine one_ (i := 10) (N := some 4) #[true, true, true, true, true, true, true, true, true, true, true, false] rfl rfl (one_of HT_.out (by kernel_rfl)) (by decide) (fun K hK => ?_)
                            refine box_step ?hg (N := 4) ?hd (cs := #[.int .i64 0, .int .i64 0, .int .i64 0]) (t := 23) ?hr ?_; (case hd => rfl); (case hg => rfl); (case hr => first | (go_simp; done) | (go_simp; rfl))
                            intro gb217 hg w34 hbox hb
                            have n0_ := Aside0.mk (blk_below (g := gb213) (o := .cells #[.int .i64 0, .int .i64 0, .int .i64 0] 23 (0, 0)) (by (with_reducible repeat (first | refine blk_drewN ?_ _ | refine blk_drew ?_ | refine blk_alloc ?_ _)); exact BK213.out) hb)
                            have n1_ := Aside0.mk (below_step (by repeat (first | (with_reducible first | exact HB.out | apply below_alloc | apply pw_below_drewN | apply below_drew1 | refine below_set ?_ GE213.out) | exact HB.out)) hb)
                            have n2_ := Aside0.mk (hbox)
                            have n3_ := Aside0.mk ((by rw [hg]; exact (below_size (by repeat (first | (with_reducible first | exact HB.out | apply below_alloc | apply pw_below_drewN | apply below_drew1 | refine below_set ?_ GE213.out) | exact HB.out))) : w.heap.size ≤ gb217))
                            have n4_ := Aside0.mk ((by rw [hg]; exact (below_size (by repeat (first | (with_reducible first | exact HB.out | apply below_alloc | apply pw_below_drewN | apply below_drew1 | refine below_set ?_ GE213.out) | exact HB.out))) : w.heap.size ≤ gb217))
                            have n5_ := Aside0.mk ((by rw [hg]; exact Nat.ne_of_lt (blk_lt (g := gb213) (o := .cells #[.int .i64 0, .int .i64 0, .int .i64 0] 23 (0, 0)) (by (with_reducible repeat (first | refine blk_drewN ?_ _ | refine blk_drew ?_ | refine blk_alloc ?_ _)); exact BK213.out)) : gb213 ≠ gb217))
                            have n6_ := Aside0.mk ((by rw [hg]; exact Nat.ne_of_gt (blk_lt (g := gb213) (o := .cells #[.int .i64 0, .int .i64 0, .int .i64 0] 23 (0, 0)) (by (with_reducible repeat (first | refine blk_drewN ?_ _ | refine blk_drew ?_ | refine blk_alloc ?_ _)); exact BK213.out)) : gb217 ≠ gb213))
                            clear BK213
                            clear HB
                            have BK213 := n0_
                            have HB := n1_
                            have BK217 := n2_
                            have GW217 := n3_
                            have GE217 := n4_
                            have NB213_217 := n5_
                            have NB217_213 := n6_
                            clear n0_ n1_ n2_ n3_ n4_ n5_ n6_
                            clear hb hbox hg
                            refine hK.out _ _ trivial (fun hHeld => ?_)
                            clear hK K
                            refine norm_ (a' := ?_) ?_ ?_
                            rotate_left
                            · show Act.put _ (some 4) _ = _
                              simp only [Act.put, List.setIfInBounds_toArray, List.set_cons_zero, List.set_cons_succ, i64_w, i32_w]
                              rfl
                            exact norm_ (by simp only [putAll, Act.put, List.setIfInBounds_toArray, List.set_cons_zero, List.set_cons_succ]) (hCont (gb217) _ ⟨(by (with_reducible repeat (first | refine blk_drewN ?_ _ | refine blk_drew ?_ | refine blk_alloc ?_ _)); exact BK213.out), (by (with_reducible repeat (first | refine blk_drewN ?_ _ | refine blk_drew ?_ | refine blk_alloc ?_ _)); exact BK217.out), GW217.out, GE217.out, NB213_217.out, NB217_213.out, (by repeat (first | (with_reducible first | exact HB.out | apply below_alloc | apply pw_below_drewN | apply below_drew1 | refine below_set ?_ GE213.out | refine below_set ?_ GE217.out) | exact HB.out))⟩)
                          · skip
                            refine box_step ?hg (N := 4) ?hd (cs := #[.int .i64 0, .int .i64 0, .int .i64 0]) (t := 23) ?hr ?_; (case hd => rfl); (case hg => rfl); (case hr => first | (go_simp; done) | (go_simp; rfl))
                            intro gb217 hg w34 hbox hb
                            have n0_ := Aside0.mk (blk_below (g := gb213) (o := .cells #[.int .i64 0, .int .i64 0, .int .i64 0] 23 (0, 0)) (by (with_reducible repeat (first | refine blk_drewN ?_ _ | refine blk_drew ?_ | refine blk_alloc ?_ _)); exact BK213.out) hb)
                            have n1_ := Aside0.mk (below_step (by repeat (first | (with_reducible first | exact HB.out | apply below_alloc | apply pw_below_drewN | apply below_drew1 | refine below_set ?_ GE213.out) | exact HB.out)) hb)
                            have n2_ := Aside0.mk (hbox)
                            have n3_ := Aside0.mk ((by rw [hg]; exact (below_size (by repeat (first | (with_reducible first | exact HB.out | apply below_alloc | apply pw_below_drewN | apply below_drew1 | refine below_set ?_ GE213.out) | exact HB.out))) : w.heap.size ≤ gb217))
                            have n4_ := Aside0.mk ((by rw [hg]; exact (below_size (by repeat (first | (with_reducible first | exact HB.out | apply below_alloc | apply pw_below_drewN | apply below_drew1 | refine below_set ?_ GE213.out) | exact HB.out))) : w.heap.size ≤ gb217))
                            have n5_ := Aside0.mk ((by rw [hg]; exact Nat.ne_of_lt (blk_lt (g := gb213) (o := .cells #[.int .i64 0, .int .i64 0, .int .i64 0] 23 (0, 0)) (by (with_reducible repeat (first | refine blk_drewN ?_ _ | refine blk_drew ?_ | refine blk_alloc ?_ _)); exact BK213.out)) : gb213 ≠ gb217))
                            have n6_ := Aside0.mk ((by rw [hg]; exact Nat.ne_of_gt (blk_lt (g := gb213) (o := .cells #[.int .i64 0, .int .i64 0, .int .i64 0] 23 (0, 0)) (by (with_reducible repeat (first | refine blk_drewN ?_ _ | refine blk_drew ?_ | refine blk_alloc ?_ _)); exact BK213.out)) : gb217 ≠ gb213))
                            clear BK213
                            clear HB
                            have BK213 := n0_
                            have HB := n1_
                            have BK217 := n2_
                            have GW217 := n3_
                            have GE217 := n4_
                            have NB213_217 := n5_
                            have NB217_213 := n6_
                            clear n0_ n1_ n2_ n3_ n4_ n5_ n6_
                            clear hb hbox hg
                            refine hK.out _ _ trivial (fun hHeld => ?_)
                            clear hK K
                            refine norm_ (a' := ?_) ?_ ?_
                            rotate_left
                            · show Act.put _ (some 4) _ = _
                              simp only [Act.put, List.setIfInBounds_toArray, List.set_cons_zero, List.set_cons_succ, i64_w, i32_w]
                              rfl
                            refine one_ (i := 8) (N := some 27) #[true, true, true, true, true, true, true, true, true, false, true, false] rfl rfl (one_of HT_.out (by kernel_rfl)) (by decide) (fun K hK => ?_)
                            refine goes_ Tryz.func98 (by kernel_rfl) rfl #[.string (a0.extract 8 a0.size)] (by rfl) rfl rfl (by (try simp only [List.map_toArray, List.map_cons, List.map_nil]); first | done | rfl | (simp only [List.length_drop, List.length_take]; rfl)) ?_
                            with_reducible refine (fuseeref07_Digits.calls kj1 (a0.extract 8 a0.size) t216 _ A19.out).mono ?_
                            rintro e w' ⟨rfl, ⟨nd, rfl⟩⟩
                            refine ⟨_, rfl, ?_⟩
                            refine hK.out _ _ trivial (fun hHeld => ?_)
                            clear hK K
                            refine norm_ (a' := ?_) ?_ ?_
                            rotate_left
                            · show Act.put _ (some 27) _ = _
                              simp only [Act.put, List.setIfInBounds_toArray, List.set_cons_zero, List.set_cons_succ, i64_w, i32_w]
                              rfl
                            refine pure_ (i := 9) (N := some 28) (v := ?_) (a' := ?_) #[true, true, true, true, true, true, true, true, true, true, true, false] rfl rfl (any_of HT_.out (by kernel_rfl)) (fun _ _ _ h => h) (Or.inl ⟨by rfl, ?_⟩) ?_ ?_
                            rotate_left
                            · intro w'
                              go_simp
                              with_reducible rfl
                            rotate_left
                            · simp only [Act.put, List.setIfInBounds_toArray, List.set_cons_zero, List.set_cons_succ, i64_w, i32_w]
                              rfl
                            exact norm_ (by simp only [putAll, Act.put, List.setIfInBounds_toArray, List.set_cons_zero, List.set_cons_succ]) (hCont (gb217) _ ⟨(by (with_reducible repeat (first | refine blk_drewN ?_ _ | refine blk_drew ?_ | refine blk_alloc ?_ _)); exact BK213.out), (by (with_reducible repeat (first | refine blk_drewN ?_ _ | refine blk_drew ?_ | refine blk_alloc ?_ _)); exact BK217.out), GW217.out, GE217.out, NB213_217.out, NB217_213.out, (by repeat (first | (with_reducible first | exact HB.out | apply below_alloc | apply pw_below_drewN | apply below_drew1 | refine below_set ?_ GE213.out | refine below_set ?_ GE217.out) | exact HB.out))⟩)
                        · skip
                          refine box_step ?hg (N := 4) ?hd (cs := #[.int .i64 0, .int .i64 0, .int .i64 0]) (t := 23) ?hr ?_; (case hd => rfl); (case hg => rfl); (case hr => first | (go_simp; done) | (go_simp; rfl))
                          intro gb217 hg w34 hbox hb
                          have n0_ := Aside0.mk (blk_below (g := gb213) (o := .cells #[.int .i64 0, .int .i64 0, .int .i64 0] 23 (0, 0)) (by (with_reducible repeat (first | refine blk_drewN ?_ _ | refine blk_drew ?_ | refine blk_alloc ?_ _)); exact BK213.out) hb)
                          have n1_ := Aside0.mk (below_step (by repeat (first | (with_reducible first | exact HB.out | apply below_alloc | apply pw_below_drewN | apply below_drew1 | refine below_set ?_ GE213.out) | exact HB.out)) hb)
                          have n2_ := Aside0.mk (hbox)
                          have n3_ := Aside0.mk ((by rw [hg]; exact (below_size (by repeat (first | (with_reducible first | exact HB.out | apply below_alloc | apply pw_below_drewN | apply below_drew1 | refine below_set ?_ GE213.out) | exact HB.out))) : w.heap.size ≤ gb217))
                          have n4_ := Aside0.mk ((by rw [hg]; exact (below_size (by repeat (first | (with_reducible first | exact HB.out | apply below_alloc | apply pw_below_drewN | apply below_drew1 | refine below_set ?_ GE213.out) | exact HB.out))) : w.heap.size ≤ gb217))
                          have n5_ := Aside0.mk ((by rw [hg]; exact Nat.ne_of_lt (blk_lt (g := gb213) (o := .cells #[.int .i64 0, .int .i64 0, .int .i64 0] 23 (0, 0)) (by (with_reducible repeat (first | refine blk_drewN ?_ _ | refine blk_drew ?_ | refine blk_alloc ?_ _)); exact BK213.out)) : gb213 ≠ gb217))
                          have n6_ := Aside0.mk ((by rw [hg]; exact Nat.ne_of_gt (blk_lt (g := gb213) (o := .cells #[.int .i64 0, .int .i64 0, .int .i64 0] 23 (0, 0)) (by (with_reducible repeat (first | refine blk_drewN ?_ _ | refine blk_drew ?_ | refine blk_alloc ?_ _)); exact BK213.out)) : gb217 ≠ gb213))
                          clear BK213
                          clear HB
                          have BK213 := n0_
                          have HB := n1_
                          have BK217 := n2_
                          have GW217 := n3_
                          have GE217 := n4_
                          have NB213_217 := n5_
                          have NB217_213 := n6_
                          clear n0_ n1_ n2_ n3_ n4_ n5_ n6_
                          clear hb hbox hg
                          refine hK.out _ _ trivial (fun hHeld => ?_)
                          clear hK K
                          refine norm_ (a' := ?_) ?_ ?_
                          rotate_left
                          · show Act.put _ (some 4) _ = _
                            simp only [Act.put, List.setIfInBounds_toArray, List.set_cons_zero, List.set_cons_succ, i64_w, i32_w]
                            rfl
                          refine one_ (i := 5) (N := some 24) #[true, true, true, true, true, true, true, true, false, false, true, false] rfl rfl (one_of HT_.out (by kernel_rfl)) (by decide) (fun K hK => ?_)
                          refine goes_ Tryz.func98 (by kernel_rfl) rfl #[.string (a0.extract 5 7)] (by rfl) rfl rfl (by (try simp only [List.map_toArray, List.map_cons, List.map_nil]); first | done | rfl | (simp only [List.length_drop, List.length_take]; rfl)) ?_
                          with_reducible refine (fuseeref07_Digits.calls kj1 (a0.extract 5 7) t215 _ A17.out).mono ?_
                          rintro e w' ⟨rfl, ⟨nd, rfl⟩⟩
                          refine ⟨_, rfl, ?_⟩
                          refine hK.out _ _ trivial (fun hHeld => ?_)
                          clear hK K
                          refine norm_ (a' := ?_) ?_ ?_
                          rotate_left
                          · show Act.put _ (some 24) _ = _
                            simp only [Act.put, List.setIfInBounds_toArray, List.set_cons_zero, List.set_cons_succ, i64_w, i32_w]
                            rfl
                          refine one_ (i := 8) (N := some 27) #[true, true, true, true, true, true, true, true, true, false, true, false] rfl rfl (one_of HT_.out (by kernel_rfl)) (by decide) (fun K hK => ?_)
                          refine goes_ Tryz.func98 (by kernel_rfl) rfl #[.string (a0.extract 8 a0.size)] (by rfl) rfl rfl (by (try simp only [List.map_toArray, List.map_cons, List.map_nil]); first | done | rfl | (simp only [List.length_drop, List.length_take]; rfl)) ?_
                          with_reducible refine (fuseeref07_Digits.calls kj1 (a0.extract 8 a0.size) t216 _ A19.out).mono ?_
                          rintro e w' ⟨rfl, ⟨nd, rfl⟩⟩
                          refine ⟨_, rfl, ?_⟩
                          refine hK.out _ _ trivial (fun hHeld => ?_)
                          clear hK K
                          refine norm_ (a' := ?_) ?_ ?_
                          rotate_left
                          · show Act.put _ (some 27) _ = _
                            simp only [Act.put, List.setIfInBounds_toArray, List.set_cons_zero, List.set_cons_succ, i64_w, i32_w]
                            rfl
                          refine pure_ (i := 9) (N := some 28) (v := ?_) (a' := ?_) #[true, true, true, true, true, true, true, true, true, true, true, false] rfl rfl (any_of HT_.out (by kernel_rfl)) (fun _ _ _ h => h) (Or.inl ⟨by rfl, ?_⟩) ?_ ?_
                          rotate_left
                          · intro w'
                            go_simp
                            with_reducible rfl
                          rotate_left
                          · simp only [Act.put, List.setIfInBounds_toArray, List.set_cons_zero, List.set_cons_succ, i64_w, i32_w]
                            rfl
                          exact norm_ (by simp only [putAll, Act.put, List.setIfInBounds_toArray, List.set_cons_zero, List.set_cons_succ]) (hCont (gb217) _ ⟨(by (with_reducible repeat (first | refine blk_drewN ?_ _ | refine blk_drew ?_ | refine blk_alloc ?_ _)); exact BK213.out), (by (with_reducible repeat (first | refine blk_drewN ?_ _ | refine blk_drew ?_ | refine blk_alloc ?_ _)); exact BK217.out), GW217.out, GE217.out, NB213_217.out, NB217_213.out, (by repeat (first | (with_reducible first | exact HB.out | apply below_alloc | apply pw_below_drewN | apply below_drew1 | refine below_set ?_ GE213.out | refine below_set ?_ GE217.out) | exact HB.out))⟩)
                      · skip
                        refine box_step ?hg (N := 4) ?hd (cs := #[.int .i64 0, .int .i64 0, .int .i64 0]) (t := 23) ?hr ?_; (case hd => rfl); (case hg => rfl); (case hr => first | (go_simp; done) | (go_simp; rfl))
                        intro gb217 hg w34 hbox hb
                        have n0_ := Aside0.mk (blk_below (g := gb213) (o := .cells #[.int .i64 0, .int .i64 0, .int .i64 0] 23 (0, 0)) (by (with_reducible repeat (first | refine blk_drewN ?_ _ | refine blk_drew ?_ | refine blk_alloc ?_ _)); exact BK213.out) hb)
                        have n1_ := Aside0.mk (below_step (by repeat (first | (with_reducible first | exact HB.out | apply below_alloc | apply pw_below_drewN | apply below_drew1 | refine below_set ?_ GE213.out) | exact HB.out)) hb)
                        have n2_ := Aside0.mk (hbox)
                        have n3_ := Aside0.mk ((by rw [hg]; exact (below_size (by repeat (first | (with_reducible first | exact HB.out | apply below_alloc | apply pw_below_drewN | apply below_drew1 | refine below_set ?_ GE213.out) | exact HB.out))) : w.heap.size ≤ gb217))
                        have n4_ := Aside0.mk ((by rw [hg]; exact (below_size (by repeat (first | (with_reducible first | exact HB.out | apply below_alloc | apply pw_below_drewN | apply below_drew1 | refine below_set ?_ GE213.out) | exact HB.out))) : w.heap.size ≤ gb217))
                        have n5_ := Aside0.mk ((by rw [hg]; exact Nat.ne_of_lt (blk_lt (g := gb213) (o := .cells #[.int .i64 0, .int .i64 0, .int .i64 0] 23 (0, 0)) (by (with_reducible repeat (first | refine blk_drewN ?_ _ | refine blk_drew ?_ | refine blk_alloc ?_ _)); exact BK213.out)) : gb213 ≠ gb217))
                        have n6_ := Aside0.mk ((by rw [hg]; exact Nat.ne_of_gt (blk_lt (g := gb213) (o := .cells #[.int .i64 0, .int .i64 0, .int .i64 0] 23 (0, 0)) (by (with_reducible repeat (first | refine blk_drewN ?_ _ | refine blk_drew ?_ | refine blk_alloc ?_ _)); exact BK213.out)) : gb217 ≠ gb213))
                        clear BK213
                        clear HB
                        have BK213 := n0_
                        have HB := n1_
                        have BK217 := n2_
                        have GW217 := n3_
                        have GE217 := n4_
                        have NB213_217 := n5_
                        have NB217_213 := n6_
                        clear n0_ n1_ n2_ n3_ n4_ n5_ n6_
                        clear hb hbox hg
                        refine hK.out _ _ trivial (fun hHeld => ?_)
                        clear hK K
                        refine norm_ (a' := ?_) ?_ ?_
                        rotate_left
                        · show Act.put _ (some 4) _ = _
                          simp only [Act.put, List.setIfInBounds_toArray, List.set_cons_zero, List.set_cons_succ, i64_w, i32_w]
                          rfl
                        refine one_ (i := 2) (N := some 21) #[true, true, true, true, true, false, true, true, false, false, true, false] rfl rfl (one_of HT_.out (by kernel_rfl)) (by decide) (fun K hK => ?_)
                        refine goes_ Tryz.func98 (by kernel_rfl) rfl #[.string (a0.extract 0 4)] (by rfl) rfl rfl (by (try simp only [List.map_toArray, List.map_cons, List.map_nil]); first | done | rfl | (simp only [List.length_drop, List.length_take]; rfl)) ?_
                        with_reducible refine (fuseeref07_Digits.calls kj1 (a0.extract 0 4) t214 _ A14.out).mono ?_
                        rintro e w' ⟨rfl, ⟨nd, rfl⟩⟩
                        refine ⟨_, rfl, ?_⟩
                        refine hK.out _ _ trivial (fun hHeld => ?_)
                        clear hK K
                        refine norm_ (a' := ?_) ?_ ?_
                        rotate_left
                        · show Act.put _ (some 21) _ = _
                          simp only [Act.put, List.setIfInBounds_toArray, List.set_cons_zero, List.set_cons_succ, i64_w, i32_w]
                          rfl
                        refine one_ (i := 5) (N := some 24) #[true, true, true, true, true, true, true, true, false, false, true, false] rfl rfl (one_of HT_.out (by kernel_rfl)) (by decide) (fun K hK => ?_)
                        refine goes_ Tryz.func98 (by kernel_rfl) rfl #[.string (a0.extract 5 7)] (by rfl) rfl rfl (by (try simp only [List.map_toArray, List.map_cons, List.map_nil]); first | done | rfl | (simp only [List.length_drop, List.length_take]; rfl)) ?_
                        with_reducible refine (fuseeref07_Digits.calls kj1 (a0.extract 5 7) t215 _ A17.out).mono ?_
                        rintro e w' ⟨rfl, ⟨nd, rfl⟩⟩
                        refine ⟨_, rfl, ?_⟩
                        refine hK.out _ _ trivial (fun hHeld => ?_)
                        clear hK K
                        refine norm_ (a' := ?_) ?_ ?_
                        rotate_left
                        · show Act.put _ (some 24) _ = _
                          simp only [Act.put, List.setIfInBounds_toArray, List.set_cons_zero, List.set_cons_succ, i64_w, i32_w]
                          rfl
                        refine one_ (i := 8) (N := some 27) #[true, true, true, true, true, true, true, true, true, false, true, false] rfl rfl (one_of HT_.out (by kernel_rfl)) (by decide) (fun K hK => ?_)
                        refine goes_ Tryz.func98 (by kernel_rfl) rfl #[.string (a0.extract 8 a0.size)] (by rfl) rfl rfl (by (try simp only [List.map_toArray, List.map_cons, List.map_nil]); first | done | rfl | (simp only [List.length_drop, List.length_take]; rfl)) ?_
                        with_reducible refine (fuseeref07_Digits.calls kj1 (a0.extract 8 a0.size) t216 _ A19.out).mono ?_
                        rintro e w' ⟨rfl, ⟨nd, rfl⟩⟩
                        refine ⟨_, rfl, ?_⟩
                        refine hK.out _ _ trivial (fun hHeld => ?_)
                        clear hK K
                        refine norm_ (a' := ?_) ?_ ?_
                        rotate_left
                        · show Act.put _ (some 27) _ = _
                          simp only [Act.put, List.setIfInBounds_toArray, List.set_cons_zero, List.set_cons_succ, i64_w, i32_w]
                          rfl
                        refine pure_ (i := 9) (N := some 28) (v := ?_) (a' := ?_) #[true, true, true, true, true, true, true, true, true, true, true, false] rfl rfl (any_of HT_.out (by kernel_rfl)) (fun _ _ _ h => h) (Or.inl ⟨by rfl, ?_⟩) ?_ ?_
                        rotate_left
                        · intro w'
                          go_simp
                          with_reducible rfl
                        rotate_left
                        · simp only [Act.put, List.setIfInBounds_toArray, List.set_cons_zero, List.set_cons_succ, i64_w, i32_w]
                          rfl
                        exact norm_ (by simp only [putAll, Act.put, List.setIfInBounds_toArray, List.set_cons_zero, List.set_cons_succ]) (hCont (gb217) _ ⟨(by (with_reducible repeat (first | refine blk_drewN ?_ _ | refine blk_drew ?_ | refine blk_alloc ?_ _)); exact BK213.out), (by (with_reducible repeat (first | refine blk_drewN ?_ _ | refine blk_drew ?_ | refine blk_alloc ?_ _)); exact BK217.out), GW217.out, GE217.out, NB213_217.out, NB217_213.out, (by repeat (first | (with_reducible first | exact HB.out | apply below_alloc | apply pw_below_drewN | apply below_drew1 | refine below_set ?_ GE213.out | refine below_set ?_ GE217.out) | exact HB.out))⟩)
                    rintro gb217 w35 ⟨h0_, h1_, h2_, h3_, h4_, h5_, h6_⟩
                    have n0_ : Aside0 (w35.heap[gb213]? = some (.cells #[.int .i64 0, .int .i64 0, .int .i64 0] 23 (0, 0))) := ⟨h0_⟩
                    have n1_ : Aside0 (w35.heap[gb217]? = some (.cells #[.int .i64 0, .int .i64 0, .int .i64 0] 23 (0, 0))) := ⟨h1_⟩
                    have n2_ : Aside0 (w.heap.size ≤ gb217) := ⟨h2_⟩
                    have n3_ : Aside0 (w.heap.size ≤ gb217) := ⟨h3_⟩
                    have n4_ : Aside0 (gb213 ≠ gb217) := ⟨h4_⟩
                    have n5_ : Aside0 (gb217 ≠ gb213) := ⟨h5_⟩
                    have n6_ : Aside0 (Below w.heap.size w w35) := ⟨h6_⟩
                    clear BK213
                    clear HB
                    clear h0_ h1_ h2_ h3_ h4_ h5_ h6_
                    have BK213 := n0_
                    have BK217 := n1_
                    have GW217 := n2_
                    have GE217 := n3_
                    have NB213_217 := n4_
                    have NB217_213 := n5_
                    have HB := n6_
                    clear n0_ n1_ n2_ n3_ n4_ n5_ n6_
                    have hHeld := trivial
                    refine norm_ (a' := ?_) ?_ ?_
                    rotate_left
                    · simp only [putAll, Act.put, List.setIfInBounds_toArray, List.set_cons_zero, List.set_cons_succ]
                      rfl
                    refine one_ (i := 11) (N := none) #[true, true, true, true, true, true, true, true, true, true, true, true] rfl rfl (one_of HT_.out (by kernel_rfl)) (by decide) (fun K hK => ?_)
                    have hs36 : w35.cell? ⟨gb217, 0, none⟩ = some (.int .i64 0) := (blk_cell BK217.out 0).trans rfl
                    have hfs36 := blk_frozen BK217.out 0
                    have hns36_0 := NB213_217.out
                    have hms36_0 := NB217_213.out
                    have hs37 : w35.cell? ⟨gb217, 1, none⟩ = some (.int .i64 0) := (blk_cell BK217.out 1).trans rfl
                    have hfs37 := blk_frozen BK217.out 1
                    have hns37_0 := NB213_217.out
                    have hms37_0 := NB217_213.out
                    have hs38 : w35.cell? ⟨gb217, 2, none⟩ = some (.int .i64 0) := (blk_cell BK217.out 2).trans rfl
                    have hfs38 := blk_frozen BK217.out 2
                    have hns38_0 := NB213_217.out
                    have hms38_0 := NB217_213.out
                    refine skip_ (w1 := ?_) (by rfl) rfl ?_ ?_
                    rotate_left
                    · go_simp
                      rfl
                    refine hK.out _ _ trivial (fun hHeld => ?_)
                    clear hK K
                    refine done_ (done_of HT_.out (by kernel_rfl)) ?_
                    have hnb39 := NB217_213.out
                    have hnc39 := NB213_217.out
                    have hcz40_0 : w35.cell? ⟨gb217, 0, none⟩ = some (.int .i64 0) := (blk_cell BK217.out 0).trans rfl
                    have hcz40_1 : w35.cell? ⟨gb217, 1, none⟩ = some (.int .i64 0) := (blk_cell BK217.out 1).trans rfl
                    have hcz40_2 : w35.cell? ⟨gb217, 2, none⟩ = some (.int .i64 0) := (blk_cell BK217.out 2).trans rfl
                    have hfz40_0 := blk_frozen BK217.out 0
                    have hfz40_1 := blk_frozen BK217.out 1
                    have hfz40_2 := blk_frozen BK217.out 2
                    try go_wp2_with (first | ((with_reducible refine gate_callee (f := 14) rfl ?_); refine goesL_ (some 30) rfl rfl Tryz.func14 (by kernel_rfl) rfl #[.agg #[.int .i64 t214, .int .i64 t215, .int .i64 t216]] rfl (by (try simp only [List.map_toArray, List.map_cons, List.map_nil]); first | done | rfl | (simp only [List.length_drop, List.length_take]; rfl)) ?_; (with_reducible refine (fuseeref07_May.calls kj1 t214 t215 t216 false _ A20.out).mono ?_); rintro e w41 ⟨rfl, hb⟩; refine ⟨_, rfl, ?_⟩; have n0_ := Aside0.mk (blk_below (g := gb213) (o := .cells #[.int .i64 0, .int .i64 0, .int .i64 0] 23 (0, 0)) (by (with_reducible repeat (first | refine blk_drewN ?_ _ | refine blk_drew ?_ | refine blk_alloc ?_ _)); refine blk_far ?_ NB213_217.out _; (with_reducible repeat (first | refine blk_drewN ?_ _ | refine blk_drew ?_ | refine blk_alloc ?_ _)); refine blk_far ?_ NB213_217.out _; (with_reducible repeat (first | refine blk_drewN ?_ _ | refine blk_drew ?_ | refine blk_alloc ?_ _)); refine blk_far ?_ NB213_217.out _; (with_reducible repeat (first | refine blk_drewN ?_ _ | refine blk_drew ?_ | refine blk_alloc ?_ _)); exact BK213.out) hb); have n1_ := Aside0.mk (blk_below (g := gb217) (o := .cells #[.int .i64 t214, .int .i64 t215, .int .i64 t216] 23 (0, 0)) (by (with_reducible repeat (first | refine blk_drewN ?_ _ | refine blk_drew ?_ | refine blk_alloc ?_ _)); refine blk_put (cs := #[.int .i64 t214, .int .i64 t215, .int .i64 0]) ?_ 2 _ rfl; (with_reducible repeat (first | refine blk_drewN ?_ _ | refine blk_drew ?_ | refine blk_alloc ?_ _)); refine blk_put (cs := #[.int .i64 t214, .int .i64 0, .int .i64 0]) ?_ 1 _ rfl; (with_reducible repeat (first | refine blk_drewN ?_ _ | refine blk_drew ?_ | refine blk_alloc ?_ _)); refine blk_put (cs := #[.int .i64 0, .int .i64 0, .int .i64 0]) ?_ 0 _ rfl; (with_reducible repeat (first | refine blk_drewN ?_ _ | refine blk_drew ?_ | refine blk_alloc ?_ _)); exact BK217.out) hb); have n2_ := Aside0.mk (below_step (by repeat (first | (with_reducible first | exact HB.out | apply below_alloc | apply pw_below_drewN | apply below_drew1 | refine below_set ?_ GE213.out | refine below_set ?_ GE217.out) | exact HB.out)) hb); clear BK213; clear BK217; clear HB; have BK213 := n0_; have BK217 := n1_; have HB := n2_; clear n0_ n1_ n2_; (try clear hb); (try clear hb2); (try clear hk); (try clear hi); have hcz42_0 : w41.cell? ⟨gb213, 0, none⟩ = some (.int .i64 0) := (blk_cell BK213.out 0).trans rfl; have hcz42_1 : w41.cell? ⟨gb213, 1, none⟩ = some (.int .i64 0) := (blk_cell BK213.out 1).trans rfl; have hcz42_2 : w41.cell? ⟨gb213, 2, none⟩ = some (.int .i64 0) := (blk_cell BK213.out 2).trans rfl; have hfz42_0 := blk_frozen BK213.out 0; have hfz42_1 := blk_frozen BK213.out 1; have hfz42_2 := blk_frozen BK213.out 2))
                    refine bodyPost_ret (results_ct rfl _ _ gb213 23 #[.int .i64 0, .int .i64 0, .int .i64 0] (0, 0) _ rfl (by (with_reducible repeat (first | refine blk_drewN ?_ _ | refine blk_drew ?_ | refine blk_alloc ?_ _)); refine blk_put (cs := #[.int .i64 0, .int .i64 0, .int .i64 0]) ?_ 2 _ rfl; (with_reducible repeat (first | refine blk_drewN ?_ _ | refine blk_drew ?_ | refine blk_alloc ?_ _)); refine blk_put (cs := #[.int .i64 0, .int .i64 0, .int .i64 0]) ?_ 1 _ rfl; (with_reducible repeat (first | refine blk_drewN ?_ _ | refine blk_drew ?_ | refine blk_alloc ?_ _)); refine blk_put (cs := #[.int .i64 0, .int .i64 0, .int .i64 0]) ?_ 0 _ rfl; (with_reducible repeat (first | refine blk_drewN ?_ _ | refine blk_drew ?_ | refine blk_alloc ?_ _)); exact BK213.out) Tryz.underlying23 rfl (by kernel_rfl)) rfl ?_
                    exact ⟨by first | rfl | (simp [errW_none, errW_some] <;> rfl) | (simp [*, errW_none, errW_some] <;> rfl), by repeat (first | (with_reducible first | exact HB.out | apply below_alloc | apply pw_below_drewN | apply below_drew1 | refine below_set ?_ GE213.out | refine below_set ?_ GE217.out) | exact HB.out)⟩
                · rw [if_neg c18] at H
                  exact absurd H (by simp)
              · rw [if_neg c16] at H
                exact absurd H (by simp)
            · rw [if_neg c15] at H
              exact absurd H (by simp)
          · rw [if_neg c13] at H
            exact absurd H (by simp)
        · rw [if_neg c12] at H
          exact absurd H (by simp)

end Go.Proofs.YtfjifhkgifefeaaGreatDoor.PA
end

section
/- The document's texts of dates: Two, Text, Digits, Parse, in plain words. -/
namespace Go.Proofs.YtfjifhkgifefeaaGreatDoor.CivP
open Go.RowKit Go.Proofs.YtfjifhkgifefeaaGreatDoor.PA Go.Proofs.YtfjifhkgifefeaaGreatDoor.CivM Go.Proofs.YtfjifhkgifefeaaGreatDoor.StrM Go.Proofs.YtfjifhkgifefeaaGreatDoorW.PrintWords

theorem digit_at (d : Int) (h0 : 0 ≤ d) (h1 : d ≤ 9) : (⟨#[48, 49, 50, 51, 52, 53, 54, 55, 56, 57]⟩ : ByteArray).extract d.toNat (d + 1).toNat = ⟨[dg d].toArray⟩ := by
  have : d = 0 ∨ d = 1 ∨ d = 2 ∨ d = 3 ∨ d = 4 ∨ d = 5 ∨ d = 6 ∨ d = 7 ∨ d = 8 ∨ d = 9 := by omega
  rcases this with rfl | rfl | rfl | rfl | rfl | rfl | rfl | rfl | rfl | rfl <;> decide
/-- one round of Two. -/
theorem two_step (k : Nat) (x0 x1 x6 : Int) (l : List UInt8) (h : x6 < x1) (hx : 0 ≤ x0) (hx2 : x0 ≤ 9223372036854775807) (h6 : 0 ≤ x6) (h1 : x1 ≤ 100) (hl : l.length ≤ 1000) :
    fuseeref07_Two.l0 (k + 1) x0 x1 ⟨l.toArray⟩ x6 = fuseeref07_Two.l0 k (x0 / 10) x1 ⟨(dg (x0 % 10) :: l).toArray⟩ (x6 + 1) := by
  simp only [fuseeref07_Two.l0]
  have b0 : 0 ≤ x0 % 10 ∧ x0 % 10 ≤ 9 := by omega
  rw [if_pos h, tmd hx, tdv hx, wid (by omega) (by omega), wid (by omega) (by omega), wid (by omega) (by omega), if_pos b0.1, if_pos (by omega), if_pos (by omega), digit_at _ b0.1 b0.2, ba_size, ba_size, if_pos (by simp; omega), ba_app]
  rfl
theorem two_end (k : Nat) (x0 x1 : Int) (l : ByteArray) : fuseeref07_Two.l0 (k + 1) x0 x1 l x1 = some l := by
  simp only [fuseeref07_Two.l0]
  rw [if_neg (by omega)]
theorem two2 (k : Nat) (n : Int) (hk : 3 ≤ k) (h0 : 0 ≤ n) (h1 : n ≤ 99) : fuseeref07_Two.f k n 2 = some ⟨(padded 2 n).toArray⟩ := by
  obtain ⟨k, rfl⟩ : ∃ j, k = j + 3 := ⟨k - 3, by omega⟩
  unfold fuseeref07_Two.f
  have e : (⟨#[]⟩ : ByteArray) = ⟨([] : List UInt8).toArray⟩ := rfl
  rw [e, two_step _ _ _ _ _ (by omega) h0 (by omega) (by omega) (by omega) (by simp), two_step _ _ _ _ _ (by omega) (by omega) (by omega) (by omega) (by omega) (by simp)]
  rw [show (0 : Int) + 1 + 1 = 2 from rfl, two_end, padded2 n h0 h1]
  have : n / 10 % 10 = n / 10 := by omega
  rw [this]
theorem two4 (k : Nat) (n : Int) (hk : 5 ≤ k) (h0 : 0 ≤ n) (h1 : n ≤ 9999) : fuseeref07_Two.f k n 4 = some ⟨(padded 4 n).toArray⟩ := by
  obtain ⟨k, rfl⟩ : ∃ j, k = j + 5 := ⟨k - 5, by omega⟩
  unfold fuseeref07_Two.f
  have e : (⟨#[]⟩ : ByteArray) = ⟨([] : List UInt8).toArray⟩ := rfl
  rw [e, two_step _ _ _ _ _ (by omega) h0 (by omega) (by omega) (by omega) (by simp), two_step _ _ _ _ _ (by omega) (by omega) (by omega) (by omega) (by omega) (by simp),
    two_step _ _ _ _ _ (by omega) (by omega) (by omega) (by omega) (by omega) (by simp), two_step _ _ _ _ _ (by omega) (by omega) (by omega) (by omega) (by omega) (by simp)]
  rw [show (0 : Int) + 1 + 1 + 1 + 1 = 4 from rfl, two_end, padded4 n h0 h1]
  have a1 : n / 10 / 10 / 10 % 10 = n / 1000 := by omega
  have a2 : n / 10 / 10 % 10 = n / 100 % 10 := by omega
  rw [a1, a2]
theorem rtext (k : Nat) (y m d : Int) (hk : 5 ≤ k) (v : vld y m d) : fuseeref07_Text.f k y m d = some ⟨(dtext y m d).toArray⟩ := by
  obtain ⟨h1, h2, h3, h4, h5, h6⟩ := id v
  have hd := dim_bd y m
  have L4 := padded_len4 y (by omega) h2
  have L2 := padded_len2 m (by omega) (by omega)
  have L3 := padded_len2 d (by omega) (by omega)
  have e45 : (⟨#[45]⟩ : ByteArray) = ⟨([45] : List UInt8).toArray⟩ := rfl
  unfold fuseeref07_Text.f
  rw [two4 k y hk (by omega) h2, two2 k m (by omega) (by omega) (by omega), two2 k d (by omega) (by omega) (by omega)]
  simp only [Option.bind_some, e45, ba_app, ba_size, List.length_append, L4, L2, L3, List.length_cons, List.length_nil]
  rw [if_pos (by omega), if_pos (by omega), if_pos (by omega), if_pos (by omega)]
  simp [dtext]

/-! ### Digits, at two and at four bytes -/
theorem dig_step (k : Nat) (s : ByteArray) (x3 x4 : Int) (c : UInt8) (h0 : 0 ≤ x4) (h : x4 < (s.size : Int)) (hb : bt s x4 = c.toNat) (h3 : 0 ≤ x3) (h3' : x3 ≤ 100000) (h4 : x4 ≤ 1000) :
    fuseeref07_Digits.l0 (k + 1) s x3 x4 = if dgt c = true then fuseeref07_Digits.l0 k s (10 * x3 + dv c) (x4 + 1) else some (-1) := by
  have hc : c.toNat < 256 := c.toNat_lt
  simp only [fuseeref07_Digits.l0]
  rw [if_pos h, if_pos h0, hb]
  by_cases hd : dgt c = true
  · rw [if_pos hd]
    rw [dgt_iff] at hd
    rw [if_neg (by omega), if_neg (by omega), if_neg (by omega)]
    have e : ((c.toNat : Int) - 48) % 256 = dv c := by unfold dv; omega
    have := dv_bd c (by rw [dgt_iff]; exact hd)
    rw [e, wid (x := 10 * x3) (by omega) (by omega), wid (by omega) (by omega), wid (by omega) (by omega)]
  · rw [if_neg hd]
    rw [dgt_iff] at hd
    by_cases l : (c.toNat : Int) < 48
    · rw [if_pos l]
    · rw [if_neg l, if_pos (by omega)]
theorem dig_end (k : Nat) (s : ByteArray) (x3 x4 : Int) (h : (s.size : Int) ≤ x4) : fuseeref07_Digits.l0 (k + 1) s x3 x4 = some x3 := by
  simp only [fuseeref07_Digits.l0]
  rw [if_neg (by omega)]
theorem rdig2 (k : Nat) (a b : UInt8) (hk : 3 ≤ k) : fuseeref07_Digits.f k ⟨#[a, b]⟩ = some (if dgt a = true ∧ dgt b = true then 10 * dv a + dv b else -1) := by
  obtain ⟨k, rfl⟩ : ∃ j, k = j + 3 := ⟨k - 3, by omega⟩
  have hs : (⟨#[a, b]⟩ : ByteArray).size = 2 := rfl
  unfold fuseeref07_Digits.f
  rw [dig_step _ _ _ _ a (by omega) (by rw [hs]; omega) rfl (by omega) (by omega) (by omega)]
  by_cases ha : dgt a = true
  rotate_left
  · rw [if_neg ha, if_neg (fun c => ha c.1)]
  rw [if_pos ha]
  have va := dv_bd a ha
  rw [dig_step _ _ _ _ b (by omega) (by rw [hs]; omega) rfl (by omega) (by omega) (by omega)]
  by_cases hb : dgt b = true
  rotate_left
  · rw [if_neg hb, if_neg (fun c => hb c.2)]
  rw [if_pos hb, if_pos ⟨ha, hb⟩, dig_end _ _ _ _ (by rw [hs]; omega)]
  congr 1; omega
theorem rdig4 (k : Nat) (a b c d : UInt8) (hk : 5 ≤ k) : fuseeref07_Digits.f k ⟨#[a, b, c, d]⟩ = some (if dgt a = true ∧ dgt b = true ∧ dgt c = true ∧ dgt d = true then 1000 * dv a + 100 * dv b + 10 * dv c + dv d else -1) := by
  obtain ⟨k, rfl⟩ : ∃ j, k = j + 5 := ⟨k - 5, by omega⟩
  have hs : (⟨#[a, b, c, d]⟩ : ByteArray).size = 4 := rfl
  unfold fuseeref07_Digits.f
  rw [dig_step _ _ _ _ a (by omega) (by rw [hs]; omega) rfl (by omega) (by omega) (by omega)]
  by_cases ha : dgt a = true
  rotate_left
  · rw [if_neg ha, if_neg (fun c => ha c.1)]
  rw [if_pos ha]
  have va := dv_bd a ha
  rw [dig_step _ _ _ _ b (by omega) (by rw [hs]; omega) rfl (by omega) (by omega) (by omega)]
  by_cases hb : dgt b = true
  rotate_left
  · rw [if_neg hb, if_neg (fun c => hb c.2.1)]
  rw [if_pos hb]
  have vb := dv_bd b hb
  rw [dig_step _ _ _ _ c (by omega) (by rw [hs]; omega) rfl (by omega) (by omega) (by omega)]
  by_cases hc : dgt c = true
  rotate_left
  · rw [if_neg hc, if_neg (fun c => hc c.2.2.1)]
  rw [if_pos hc]
  have vc := dv_bd c hc
  rw [dig_step _ _ _ _ d (by omega) (by rw [hs]; omega) rfl (by omega) (by omega) (by omega)]
  by_cases hd : dgt d = true
  rotate_left
  · rw [if_neg hd, if_neg (fun c => hd c.2.2.2)]
  rw [if_pos hd, if_pos ⟨ha, hb, hc, hd⟩, dig_end _ _ _ _ (by rw [hs]; omega)]
  congr 1; omega
theorem dateOf_len {l : List UInt8} (h : l.length ≠ 10) : dateOf l = none := by
  unfold dateOf
  split
  · simp at h
  · rfl
theorem rparse (k : Nat) (s : ByteArray) (hk : 6 ≤ k) : fuseeref07_Parse.f k s = some (match dateOf s.data.toList with | some (y, m, d) => (y, m, d, 0) | none => (0, 0, 0, 3)) := by
  obtain ⟨k, rfl⟩ : ∃ j, k = j + 1 := ⟨k - 1, by omega⟩
  unfold fuseeref07_Parse.f
  by_cases h : s.data.toList.length = 10
  · obtain ⟨⟨l⟩⟩ := s
    match l, h with
    | [a, b, c, d, p, e, f, q, g, h'], _ =>
      have hs : (⟨#[a, b, c, d, p, e, f, q, g, h']⟩ : ByteArray).size = 10 := rfl
      have b4 : bt (⟨#[a, b, c, d, p, e, f, q, g, h']⟩ : ByteArray) 4 = p.toNat := rfl
      have b7 : bt (⟨#[a, b, c, d, p, e, f, q, g, h']⟩ : ByteArray) 7 = q.toNat := rfl
      rw [hs, if_pos (show ((10 : Nat) : Int) = 10 from rfl), if_pos (show (4 : Int) < ((10 : Nat) : Int) by omega), b4, if_pos (show (7 : Int) < ((10 : Nat) : Int) by omega), b7]
      have c45 : ∀ x : UInt8, ((x.toNat : Int) = 45) ↔ (x = 45) := fun x => by
        constructor
        · intro e; apply UInt8.toNat_inj.1; have : x.toNat = 45 := by omega
          rw [this]; rfl
        · rintro rfl; rfl
      rw [show (⟨#[a, b, c, d, p, e, f, q, g, h']⟩ : ByteArray).data.toList = [a, b, c, d, p, e, f, q, g, h'] from rfl]
      have stop : fuseeref07_Parse.j0 (k + 1) ⟨#[a, b, c, d, p, e, f, q, g, h']⟩ true = some (0, 0, 0, 3) := by simp only [fuseeref07_Parse.j0, if_true]
      by_cases hp : p = 45
      · rw [if_pos ((c45 p).2 hp)]
        by_cases hq : q = 45
        · have bq : ((q.toNat : Int) != 45) = false := by subst hq; rfl
          rw [bq]
          simp only [fuseeref07_Parse.j0, Bool.false_eq_true, if_false]
          have x1 : (⟨#[a, b, c, d, p, e, f, q, g, h']⟩ : ByteArray).extract 0 4 = ⟨#[a, b, c, d]⟩ := rfl
          have x2 : (⟨#[a, b, c, d, p, e, f, q, g, h']⟩ : ByteArray).extract 5 7 = ⟨#[e, f]⟩ := rfl
          have x3 : (⟨#[a, b, c, d, p, e, f, q, g, h']⟩ : ByteArray).extract 8 10 = ⟨#[g, h']⟩ := rfl
          rw [hs, x1, x2, x3, rdig4 k a b c d (by omega), rdig2 k e f (by omega), rdig2 k g h' (by omega)]
          simp only [Option.bind_some]
          rw [if_pos (by omega), if_pos (by omega), if_pos (by omega), if_pos (by omega), if_pos (by omega), may k _ _ _ (by omega)]
          simp only [Option.bind_some, dateOf, decide_eq_true_eq]
          by_cases da : dgt a = true ∧ dgt b = true ∧ dgt c = true ∧ dgt d = true
          · rw [if_pos da]
            by_cases de : dgt e = true ∧ dgt f = true
            · rw [if_pos de]
              by_cases dg' : dgt g = true ∧ dgt h' = true
              · rw [if_pos dg']
                by_cases v : vld (1000 * dv a + 100 * dv b + 10 * dv c + dv d) (10 * dv e + dv f) (10 * dv g + dv h')
                · rw [if_pos v, if_pos ⟨hp, hq, ⟨da.1, da.2.1, da.2.2.1, da.2.2.2, de.1, de.2, dg'.1, dg'.2⟩, v⟩]
                · rw [if_neg v, if_neg (fun z => v z.2.2.2)]
              · rw [if_neg dg', if_neg (fun v => by have := v.2.2.2.2.1; omega), if_neg (fun z => dg' ⟨z.2.2.1.2.2.2.2.2.2.1, z.2.2.1.2.2.2.2.2.2.2⟩)]
            · rw [if_neg de, if_neg (fun v => by have := v.2.2.1; omega), if_neg (fun z => de ⟨z.2.2.1.2.2.2.2.1, z.2.2.1.2.2.2.2.2.1⟩)]
          · rw [if_neg da, if_neg (fun v => by have := v.1; omega), if_neg (fun z => da ⟨z.2.2.1.1, z.2.2.1.2.1, z.2.2.1.2.2.1, z.2.2.1.2.2.2.1⟩)]
        · have bq : ((q.toNat : Int) != 45) = true := by
            rw [bne_iff_ne]; exact fun e => hq ((c45 q).1 e)
          rw [bq, stop]
          simp only [dateOf]
          rw [if_neg (fun z => hq z.2.1)]
      · rw [if_neg (fun e => hp ((c45 p).1 e)), stop]
        simp only [dateOf]
        rw [if_neg (fun z => hp z.1)]
  · have hs : ¬ ((s.size : Int) = 10) := by
      intro e; apply h
      have : s.data.toList.length = s.size := Array.length_toList
      omega
    rw [if_neg hs, dateOf_len h]
    simp only [fuseeref07_Parse.j0, if_true]
end Go.Proofs.YtfjifhkgifefeaaGreatDoor.CivP
end

section
namespace Go.Proofs.YtfjifhkgifefeaaGreatDoor.PA
open Go.Proofs.YtfjifhkgifefeaaGreatDoor.Giv Go.RowKit Go.Proofs.YtfjifhkgifefeaaGreatDoorW.PrintWords Go.Proofs.YtfjifhkgifefeaaGreatDoorW.PrintLast Go.Proofs.YtfjifhkgifefeaaGreatDoorW.PrintMore
attribute [local go_sem] max2_int min2_int max_two min_two max_three min_three max_four min_four   -- for this text's walks alone
set_option linter.unusedVariables false
set_option linter.unusedSimpArgs false

/-! ### fuseeref08_Stamp: function 40 -/
def fuseeref08_Stamp.j0 : Nat → Int → Int → Int → Bool → Option (ByteArray × Int)
  | 0, _, _, _, _ => none
  | k + 1, x0, x1, x2, x24 => if x24 = true then (some ((⟨#[]⟩ : ByteArray), 1)) else ((fuseeref07_Of.f k x0).bind fun bt329 => (if bt329.2.2.2 = 0 then ((fuseeref08_Of.f x1).bind fun bt334 => ((fuseeref07_Text.f k bt329.1 bt329.2.1 bt329.2.2.1).bind fun t338 => (if t338.size + 1 ≤ 9223372036854775807 then ((fuseeref07_Two.f k bt334.1 2).bind fun t339 => (if (t338 ++ (⟨#[84]⟩ : ByteArray)).size + t339.size ≤ 9223372036854775807 then (if ((t338 ++ (⟨#[84]⟩ : ByteArray)) ++ t339).size + 1 ≤ 9223372036854775807 then ((fuseeref07_Two.f k bt334.2.1 2).bind fun t340 => (if (((t338 ++ (⟨#[84]⟩ : ByteArray)) ++ t339) ++ (⟨#[58]⟩ : ByteArray)).size + t340.size ≤ 9223372036854775807 then (if ((((t338 ++ (⟨#[84]⟩ : ByteArray)) ++ t339) ++ (⟨#[58]⟩ : ByteArray)) ++ t340).size + 1 ≤ 9223372036854775807 then ((fuseeref07_Two.f k bt334.2.2 2).bind fun t341 => (if (((((t338 ++ (⟨#[84]⟩ : ByteArray)) ++ t339) ++ (⟨#[58]⟩ : ByteArray)) ++ t340) ++ (⟨#[58]⟩ : ByteArray)).size + t341.size ≤ 9223372036854775807 then (if ((((((t338 ++ (⟨#[84]⟩ : ByteArray)) ++ t339) ++ (⟨#[58]⟩ : ByteArray)) ++ t340) ++ (⟨#[58]⟩ : ByteArray)) ++ t341).size + 1 ≤ 9223372036854775807 then ((fuseeref07_Two.f k x2 9).bind fun t342 => (if (((((((t338 ++ (⟨#[84]⟩ : ByteArray)) ++ t339) ++ (⟨#[58]⟩ : ByteArray)) ++ t340) ++ (⟨#[58]⟩ : ByteArray)) ++ t341) ++ (⟨#[46]⟩ : ByteArray)).size + t342.size ≤ 9223372036854775807 then (some ((((((((t338 ++ (⟨#[84]⟩ : ByteArray)) ++ t339) ++ (⟨#[58]⟩ : ByteArray)) ++ t340) ++ (⟨#[58]⟩ : ByteArray)) ++ t341) ++ (⟨#[46]⟩ : ByteArray)) ++ t342, 0)) else (none))) else (none)) else (none))) else (none)) else (none))) else (none)) else (none))) else (none)))) else (some ((⟨#[]⟩ : ByteArray), bt329.2.2.2))))
def fuseeref08_Stamp.f (k : Nat) (a0 : Int) (a1 : Int) (a2 : Int) : Option (ByteArray × Int) := if a1 < 0 then (fuseeref08_Stamp.j0 k a0 a1 a2 true) else (if a1 > 86400 then (fuseeref08_Stamp.j0 k a0 a1 a2 true) else (if a2 < 0 then (fuseeref08_Stamp.j0 k a0 a1 a2 true) else (fuseeref08_Stamp.j0 k a0 a1 a2 (decide (a2 > 999999999)))))
def fuseeref08_Stamp.T7 : Bool × List (List Nat × List Nat) := (true, [([], []), ([0], [0]), ([1], [1]), ([], []), ([3], [3]), ([4, 1], [4]), ([2, 5], [2, 5]), ([6], [6]), ([], []), ([8], [8]), ([9, 5], [9]), ([7, 10], [7, 10]), ([11], [11]), ([], []), ([13], [13]), ([14, 10], [14]), ([12, 15], [12, 15]), ([16], [16]), ([], []), ([18, 15], [18]), ([17, 19], [17, 19]), ([20, 19, 0, 1, 2, 3, 4, 5, 6, 7, 8, 9, 10, 11, 12, 13, 14, 15, 16, 17, 18, 19, 20], [20]), ([21, 0, 1, 2, 3, 4, 5, 6, 7, 8, 9, 10, 11, 12, 13, 14, 15, 16, 17, 18, 19, 20, 21], [])])
def fuseeref08_Stamp.B7 : List Nat := [0, 1, 3, 0, 8, 27, 63, 127, 0, 256, 827, 2047, 4095, 0, 8192, 26427, 65535, 131071, 0, 321339, 1048575, 2097151, 4194303]
theorem fuseeref08_Stamp.tab7 : rtab .any (opsOf Tryz.f40 7) = fuseeref08_Stamp.T7 := by kernel_rfl
theorem fuseeref08_Stamp.bits7 : waitsOk fuseeref08_Stamp.T7.2 fuseeref08_Stamp.B7 = true := by kernel_rfl
set_option maxHeartbeats 8000000 in
set_option maxRecDepth 100000 in
theorem fuseeref08_Stamp.calls (k : Nat) (a0 : Int) (a1 : Int) (a2 : Int) (r1 : ByteArray) (r2 : Int) (w : World) (h : fuseeref08_Stamp.f k a0 a1 a2 = some (r1, r2)) :
    Calls Tryz.prog 40 #[.int .i64 a0, .int .i64 a1, .int .i64 a2] w fun e w' => e = .returned (.tuple #[.string r1, .int .i64 r2]) ∧ Below w.heap.size w w' := by
  have hu23 := Tryz.underlying23
  have hu49 := Tryz.underlying49
  have HB := Aside0.mk (Below.refl w.heap.size w)
  have H := h
  clear h
  unfold fuseeref08_Stamp.f at H
  have HC4 := Aside0.mk H
  clear H
  go_enter Tryz.func40, Tryz.ntmps40
  go_upto_region 1 with (fail)
  go_cut [24] (fun v24 wc => ∃ (kq : Nat) (x24_3 : Bool), v24 = .bool x24_3 ∧ Aside0 (fuseeref08_Stamp.j0 kq a0 a1 a2 x24_3 = some (r1, r2)) ∧ Aside0 (kq ≤ k) ∧ Aside0 (Below w.heap.size w wc))
  case first =>
    have H := HC4.out
    clear HC4
    by_cases c5 : a1 < 0
    · rw [if_pos c5] at H
      have c5b0 : decide (a1 < 0) = true := decide_eq_true c5
      clear c5
      (first | rw [c5b0] | (simp only [i64_w, i32_w]; rw [c5b0]) | skip)
      have H' := Aside0.mk H
      clear H
      go_wp2
      go_meet
      case rel => exact ⟨_, (true), (by first | rfl | (simp; done) | (simp [*]; done)), H', ⟨by first | omega | exact Nat.le_refl _⟩, ⟨by repeat (first | (with_reducible first | exact HB.out | apply below_alloc | apply pw_below_drewN | apply below_drew1) | exact HB.out)⟩⟩
    · rw [if_neg c5] at H
      have c5b0 : decide (a1 < 0) = false := decide_eq_false c5
      clear c5
      (first | rw [c5b0] | (simp only [i64_w, i32_w]; rw [c5b0]) | skip)
      by_cases c6 : a1 > 86400
      · rw [if_pos c6] at H
        have c6b0 : decide (86400 < a1) = true := decide_eq_true c6
        clear c6
        have H' := Aside0.mk H
        clear H
        go_wp2
        go_meet
        case rel => exact ⟨_, (true), (by first | rfl | (simp; done) | (simp [*]; done)), H', ⟨by first | omega | exact Nat.le_refl _⟩, ⟨by repeat (first | (with_reducible first | exact HB.out | apply below_alloc | apply pw_below_drewN | apply below_drew1) | exact HB.out)⟩⟩
      · rw [if_neg c6] at H
        have c6b0 : decide (86400 < a1) = false := decide_eq_false c6
        clear c6
        by_cases c7 : a2 < 0
        · rw [if_pos c7] at H
          have c7b0 : decide (a2 < 0) = true := decide_eq_true c7
          clear c7
          have H' := Aside0.mk H
          clear H
          go_wp2
          go_meet
          case rel => exact ⟨_, (true), (by first | rfl | (simp; done) | (simp [*]; done)), H', ⟨by first | omega | exact Nat.le_refl _⟩, ⟨by repeat (first | (with_reducible first | exact HB.out | apply below_alloc | apply pw_below_drewN | apply below_drew1) | exact HB.out)⟩⟩
        · rw [if_neg c7] at H
          have c7b0 : decide (a2 < 0) = false := decide_eq_false c7
          clear c7
          have H' := Aside0.mk H
          clear H
          go_wp2
          go_meet
          case rel => exact ⟨_, (decide (a2 > 999999999)), (by first | rfl | (simp; done) | (simp [*]; done)), H', ⟨by first | omega | exact Nat.le_refl _⟩, ⟨by repeat (first | (with_reducible first | exact HB.out | apply below_alloc | apply pw_below_drewN | apply below_drew1) | exact HB.out)⟩⟩
  case rest =>
    clear HC4
    try clear p2
    try clear c4
    try clear c5
    try clear c5b0
    try clear c6
    try clear c6b0
    try clear c7
    try clear c7b0
    obtain ⟨kq, x24_3, rfl, HA, HJ3, HB⟩ := hcut
    cases kq with
    | zero => exact absurd HA.out (by simp [fuseeref08_Stamp.j0])
    | succ kj3 =>
      have H := HA.out
      clear HA
      simp only [fuseeref08_Stamp.j0] at H
      by_cases c8 : x24_3 = true
      · subst c8
        have H1 : (some ((⟨#[]⟩ : ByteArray), 1)) = some (r1, r2) := by rw [if_pos rfl] at H; exact H
        clear H
        have H := H1
        clear H1
        simp only [Option.some.injEq, Prod.mk.injEq] at H
        obtain ⟨rfl, rfl⟩ := H
        go_wp2
        go_ret2
        exact ⟨by first | rfl | (simp [errW_none, errW_some] <;> rfl) | (simp [*, errW_none, errW_some] <;> rfl), by repeat (first | (with_reducible first | exact HB.out | apply below_alloc | apply pw_below_drewN | apply below_drew1) | exact HB.out)⟩
      · replace c8 := Bool.eq_false_iff.mpr c8
        subst c8
        have H1 : ((fuseeref07_Of.f kj3 a0).bind fun bt329 => (if bt329.2.2.2 = 0 then ((fuseeref08_Of.f a1).bind fun bt334 => ((fuseeref07_Text.f kj3 bt329.1 bt329.2.1 bt329.2.2.1).bind fun t338 => (if t338.size + 1 ≤ 9223372036854775807 then ((fuseeref07_Two.f kj3 bt334.1 2).bind fun t339 => (if (t338 ++ (⟨#[84]⟩ : ByteArray)).size + t339.size ≤ 9223372036854775807 then (if ((t338 ++ (⟨#[84]⟩ : ByteArray)) ++ t339).size + 1 ≤ 9223372036854775807 then ((fuseeref07_Two.f kj3 bt334.2.1 2).bind fun t340 => (if (((t338 ++ (⟨#[84]⟩ : ByteArray)) ++ t339) ++ (⟨#[58]⟩ : ByteArray)).size + t340.size ≤ 9223372036854775807 then (if ((((t338 ++ (⟨#[84]⟩ : ByteArray)) ++ t339) ++ (⟨#[58]⟩ : ByteArray)) ++ t340).size + 1 ≤ 9223372036854775807 then ((fuseeref07_Two.f kj3 bt334.2.2 2).bind fun t341 => (if (((((t338 ++ (⟨#[84]⟩ : ByteArray)) ++ t339) ++ (⟨#[58]⟩ : ByteArray)) ++ t340) ++ (⟨#[58]⟩ : ByteArray)).size + t341.size ≤ 9223372036854775807 then (if ((((((t338 ++ (⟨#[84]⟩ : ByteArray)) ++ t339) ++ (⟨#[58]⟩ : ByteArray)) ++ t340) ++ (⟨#[58]⟩ : ByteArray)) ++ t341).size + 1 ≤ 9223372036854775807 then ((fuseeref07_Two.f kj3 a2 9).bind fun t342 => (if (((((((t338 ++ (⟨#[84]⟩ : ByteArray)) ++ t339) ++ (⟨#[58]⟩ : ByteArray)) ++ t340) ++ (⟨#[58]⟩ : ByteArray)) ++ t341) ++ (⟨#[46]⟩ : ByteArray)).size + t342.size ≤ 9223372036854775807 then (some ((((((((t338 ++ (⟨#[84]⟩ : ByteArray)) ++ t339) ++ (⟨#[58]⟩ : ByteArray)) ++ t340) ++ (⟨#[58]⟩ : ByteArray)) ++ t341) ++ (⟨#[46]⟩ : ByteArray)) ++ t342, 0)) else (none))) else (none)) else (none))) else (none)) else (none))) else (none)) else (none))) else (none)))) else (some ((⟨#[]⟩ : ByteArray), bt329.2.2.2)))) = some (r1, r2) := by rw [if_neg (show ¬ (false = true) by decide)] at H; exact H
        clear H
        have H := H1
        clear H1
        replace H := Option.bind_eq_some_iff.mp H
        obtain ⟨⟨t329, t330, t331, t332⟩, A90, H⟩ := H
        try dsimp only at H
        have A9 := Aside0.mk A90
        clear A90
        by_cases c10 : t332 = 0
        · rw [if_pos c10] at H
          have c10b0 : (t332 == 0) = true := beq_iff_eq.mpr c10
          have c10b1 : (t332 != 0) = false := bne_eq_false_iff_eq.mpr c10
          clear c10
          replace H := Option.bind_eq_some_iff.mp H
          obtain ⟨⟨t334, t335, t336⟩, A110, H⟩ := H
          try dsimp only at H
          have A11 := Aside0.mk A110
          clear A110
          replace H := Option.bind_eq_some_iff.mp H
          obtain ⟨t338, A120, H⟩ := H
          try dsimp only at H
          have A12 := Aside0.mk A120
          clear A120
          by_cases c13 : t338.size + 1 ≤ 9223372036854775807
          · rw [if_pos c13] at H
            have c13b0 := eq_true c13
            have c13b1 : decide (t338.size + 1 ≤ 9223372036854775807) = true := decide_eq_true c13
            try have c13b2 : (9223372036854775807 < t338.size + 1) = False := eq_false (Nat.not_lt.2 c13)
            replace H := Option.bind_eq_some_iff.mp H
            obtain ⟨t339, A140, H⟩ := H
            try dsimp only at H
            have A14 := Aside0.mk A140
            clear A140
            by_cases c15 : (t338 ++ (⟨#[84]⟩ : ByteArray)).size + t339.size ≤ 9223372036854775807
            · rw [if_pos c15] at H
              have c15b0 := eq_true c15
              have c15b1 : decide ((t338 ++ (⟨#[84]⟩ : ByteArray)).size + t339.size ≤ 9223372036854775807) = true := decide_eq_true c15
              try have c15b2 : (9223372036854775807 < (t338 ++ (⟨#[84]⟩ : ByteArray)).size + t339.size) = False := eq_false (Nat.not_lt.2 c15)
              try have c15b3 : (9223372036854775807 < t338.size + 1 + t339.size) = False := eq_false (by have q_ := c15; simp only [ByteArray.size_append] at q_; exact Nat.not_lt.2 q_)
              by_cases c16 : ((t338 ++ (⟨#[84]⟩ : ByteArray)) ++ t339).size + 1 ≤ 9223372036854775807
              · rw [if_pos c16] at H
                have c16b0 := eq_true c16
                have c16b1 : decide (((t338 ++ (⟨#[84]⟩ : ByteArray)) ++ t339).size + 1 ≤ 9223372036854775807) = true := decide_eq_true c16
                try have c16b2 : (9223372036854775807 < ((t338 ++ (⟨#[84]⟩ : ByteArray)) ++ t339).size + 1) = False := eq_false (Nat.not_lt.2 c16)
                try have c16b3 : (9223372036854775807 < t338.size + 1 + t339.size + 1) = False := eq_false (by have q_ := c16; simp only [ByteArray.size_append] at q_; exact Nat.not_lt.2 q_)
                replace H := Option.bind_eq_some_iff.mp H
                obtain ⟨t340, A170, H⟩ := H
                try dsimp only at H
                have A17 := Aside0.mk A170
                clear A170
                by_cases c18 : (((t338 ++ (⟨#[84]⟩ : ByteArray)) ++ t339) ++ (⟨#[58]⟩ : ByteArray)).size + t340.size ≤ 9223372036854775807
                · rw [if_pos c18] at H
                  have c18b0 := eq_true c18
                  have c18b1 : decide ((((t338 ++ (⟨#[84]⟩ : ByteArray)) ++ t339) ++ (⟨#[58]⟩ : ByteArray)).size + t340.size ≤ 9223372036854775807) = true := decide_eq_true c18
                  try have c18b2 : (9223372036854775807 < (((t338 ++ (⟨#[84]⟩ : ByteArray)) ++ t339) ++ (⟨#[58]⟩ : ByteArray)).size + t340.size) = False := eq_false (Nat.not_lt.2 c18)
                  try have c18b3 : (9223372036854775807 < t338.size + 1 + t339.size + 1 + t340.size) = False := eq_false (by have q_ := c18; simp only [ByteArray.size_append] at q_; exact Nat.not_lt.2 q_)
                  by_cases c19 : ((((t338 ++ (⟨#[84]⟩ : ByteArray)) ++ t339) ++ (⟨#[58]⟩ : ByteArray)) ++ t340).size + 1 ≤ 9223372036854775807
                  · rw [if_pos c19] at H
                    have c19b0 := eq_true c19
                    have c19b1 : decide (((((t338 ++ (⟨#[84]⟩ : ByteArray)) ++ t339) ++ (⟨#[58]⟩ : ByteArray)) ++ t340).size + 1 ≤ 9223372036854775807) = true := decide_eq_true c19
                    try have c19b2 : (9223372036854775807 < ((((t338 ++ (⟨#[84]⟩ : ByteArray)) ++ t339) ++ (⟨#[58]⟩ : ByteArray)) ++ t340).size + 1) = False := eq_false (Nat.not_lt.2 c19)
                    try have c19b3 : (9223372036854775807 < t338.size + 1 + t339.size + 1 + t340.size + 1) = False := eq_false (by have q_ := c19; simp only [ByteArray.size_append] at q_; exact Nat.not_lt.2 q_)
                    replace H := Option.bind_eq_some_iff.mp H
                    obtain ⟨t341, A200, H⟩ := H
                    try dsimp only at H
                    have A20 := Aside0.mk A200
                    clear A200
                    by_cases c21 : (((((t338 ++ (⟨#[84]⟩ : ByteArray)) ++ t339) ++ (⟨#[58]⟩ : ByteArray)) ++ t340) ++ (⟨#[58]⟩ : ByteArray)).size + t341.size ≤ 9223372036854775807
                    · rw [if_pos c21] at H
                      have c21b0 := eq_true c21
                      have c21b1 : decide ((((((t338 ++ (⟨#[84]⟩ : ByteArray)) ++ t339) ++ (⟨#[58]⟩ : ByteArray)) ++ t340) ++ (⟨#[58]⟩ : ByteArray)).size + t341.size ≤ 9223372036854775807) = true := decide_eq_true c21
                      try have c21b2 : (9223372036854775807 < (((((t338 ++ (⟨#[84]⟩ : ByteArray)) ++ t339) ++ (⟨#[58]⟩ : ByteArray)) ++ t340) ++ (⟨#[58]⟩ : ByteArray)).size + t341.size) = False := eq_false (Nat.not_lt.2 c21)
                      try have c21b3 : (9223372036854775807 < t338.size + 1 + t339.size + 1 + t340.size + 1 + t341.size) = False := eq_false (by have q_ := c21; simp only [ByteArray.size_append] at q_; exact Nat.not_lt.2 q_)
                      by_cases c22 : ((((((t338 ++ (⟨#[84]⟩ : ByteArray)) ++ t339) ++ (⟨#[58]⟩ : ByteArray)) ++ t340) ++ (⟨#[58]⟩ : ByteArray)) ++ t341).size + 1 ≤ 9223372036854775807
                      · rw [if_pos c22] at H
                        have c22b0 := eq_true c22
                        have c22b1 : decide (((((((t338 ++ (⟨#[84]⟩ : ByteArray)) ++ t339) ++ (⟨#[58]⟩ : ByteArray)) ++ t340) ++ (⟨#[58]⟩ : ByteArray)) ++ t341).size + 1 ≤ 9223372036854775807) = true := decide_eq_true c22
                        try have c22b2 : (9223372036854775807 < ((((((t338 ++ (⟨#[84]⟩ : ByteArray)) ++ t339) ++ (⟨#[58]⟩ : ByteArray)) ++ t340) ++ (⟨#[58]⟩ : ByteArray)) ++ t341).size + 1) = False := eq_false (Nat.not_lt.2 c22)
                        try have c22b3 : (9223372036854775807 < t338.size + 1 + t339.size + 1 + t340.size + 1 + t341.size + 1) = False := eq_false (by have q_ := c22; simp only [ByteArray.size_append] at q_; exact Nat.not_lt.2 q_)
                        replace H := Option.bind_eq_some_iff.mp H
                        obtain ⟨t342, A230, H⟩ := H
                        try dsimp only at H
                        have A23 := Aside0.mk A230
                        clear A230
                        by_cases c24 : (((((((t338 ++ (⟨#[84]⟩ : ByteArray)) ++ t339) ++ (⟨#[58]⟩ : ByteArray)) ++ t340) ++ (⟨#[58]⟩ : ByteArray)) ++ t341) ++ (⟨#[46]⟩ : ByteArray)).size + t342.size ≤ 9223372036854775807
                        · rw [if_pos c24] at H
                          have c24b0 := eq_true c24
                          have c24b1 : decide ((((((((t338 ++ (⟨#[84]⟩ : ByteArray)) ++ t339) ++ (⟨#[58]⟩ : ByteArray)) ++ t340) ++ (⟨#[58]⟩ : ByteArray)) ++ t341) ++ (⟨#[46]⟩ : ByteArray)).size + t342.size ≤ 9223372036854775807) = true := decide_eq_true c24
                          try have c24b2 : (9223372036854775807 < (((((((t338 ++ (⟨#[84]⟩ : ByteArray)) ++ t339) ++ (⟨#[58]⟩ : ByteArray)) ++ t340) ++ (⟨#[58]⟩ : ByteArray)) ++ t341) ++ (⟨#[46]⟩ : ByteArray)).size + t342.size) = False := eq_false (Nat.not_lt.2 c24)
                          try have c24b3 : (9223372036854775807 < t338.size + 1 + t339.size + 1 + t340.size + 1 + t341.size + 1 + t342.size) = False := eq_false (by have q_ := c24; simp only [ByteArray.size_append] at q_; exact Nat.not_lt.2 q_)
                          simp only [Option.some.injEq, Prod.mk.injEq] at H
                          obtain ⟨rfl, rfl⟩ := H
                          try go_wp2_with (first | ((with_reducible refine gate_callee (f := 25) rfl ?_); refine goesL_ (some 27) rfl rfl Tryz.func25 (by kernel_rfl) rfl #[.int .i64 a0] rfl (by (try simp only [List.map_toArray, List.map_cons, List.map_nil]); first | done | rfl | (simp only [List.length_drop, List.length_take]; rfl)) ?_; (with_reducible refine (fuseeref07_Of.calls kj3 a0 t329 t330 t331 t332 _ A9.out).mono ?_); rintro e w25 ⟨rfl, hb⟩; refine ⟨_, rfl, ?_⟩; have n0_ := Aside0.mk (below_step (by repeat (first | (with_reducible first | exact HB.out | apply below_alloc | apply pw_below_drewN | apply below_drew1) | exact HB.out)) hb); clear HB; have HB := n0_; clear n0_; (try clear hb); (try clear hb2); (try clear hk); (try clear hi)) | ((with_reducible refine gate_dst (N := 8) rfl ?_); refine box_event ?hg (N := 8) ?hd (cs := #[.int .i64 0, .int .i64 0, .int .i64 0]) (t := 23) ?hr ?_; (case hd => rfl); (case hg => rfl); (case hr => first | (go_simp; done) | (go_simp; rfl)); intro gb333 hg w26 hbox hb; have n0_ := Aside0.mk (below_step (by repeat (first | (with_reducible first | exact HB.out | apply below_alloc | apply pw_below_drewN | apply below_drew1) | exact HB.out)) hb); have n1_ := Aside0.mk (hbox); have n2_ := Aside0.mk ((by rw [hg]; exact (below_size (by repeat (first | (with_reducible first | exact HB.out | apply below_alloc | apply pw_below_drewN | apply below_drew1) | exact HB.out))) : w.heap.size ≤ gb333)); have n3_ := Aside0.mk ((by rw [hg]; exact (below_size (by repeat (first | (with_reducible first | exact HB.out | apply below_alloc | apply pw_below_drewN | apply below_drew1) | exact HB.out))) : w.heap.size ≤ gb333)); clear HB; have HB := n0_; have BK333 := n1_; have GW333 := n2_; have GE333 := n3_; clear n0_ n1_ n2_ n3_; clear hb hbox hg; have hcz27_0 : w26.cell? ⟨gb333, 0, none⟩ = some (.int .i64 0) := (blk_cell BK333.out 0).trans rfl; have hcz27_1 : w26.cell? ⟨gb333, 1, none⟩ = some (.int .i64 0) := (blk_cell BK333.out 1).trans rfl; have hcz27_2 : w26.cell? ⟨gb333, 2, none⟩ = some (.int .i64 0) := (blk_cell BK333.out 2).trans rfl; have hfz27_0 := blk_frozen BK333.out 0; have hfz27_1 := blk_frozen BK333.out 1; have hfz27_2 := blk_frozen BK333.out 2) | ((with_reducible refine gate_callee (f := 38) rfl ?_); refine goesL_ (some 34) rfl rfl Tryz.func38 (by kernel_rfl) rfl #[.int .i64 a1] rfl (by (try simp only [List.map_toArray, List.map_cons, List.map_nil]); first | done | rfl | (simp only [List.length_drop, List.length_take]; rfl)) ?_; (with_reducible refine (fuseeref08_Of.calls a1 t334 t335 t336 _ A11.out).mono ?_); rintro e w28 ⟨rfl, hb⟩; refine ⟨_, rfl, ?_⟩; have n0_ := Aside0.mk (blk_below (g := gb333) (o := .cells #[.int .i64 t329, .int .i64 t330, .int .i64 t331] 23 (0, 0)) (by (with_reducible repeat (first | refine blk_drewN ?_ _ | refine blk_drew ?_ | refine blk_alloc ?_ _)); refine blk_put (cs := #[.int .i64 t329, .int .i64 t330, .int .i64 0]) ?_ 2 _ rfl; (with_reducible repeat (first | refine blk_drewN ?_ _ | refine blk_drew ?_ | refine blk_alloc ?_ _)); refine blk_put (cs := #[.int .i64 t329, .int .i64 0, .int .i64 0]) ?_ 1 _ rfl; (with_reducible repeat (first | refine blk_drewN ?_ _ | refine blk_drew ?_ | refine blk_alloc ?_ _)); refine blk_put (cs := #[.int .i64 0, .int .i64 0, .int .i64 0]) ?_ 0 _ rfl; (with_reducible repeat (first | refine blk_drewN ?_ _ | refine blk_drew ?_ | refine blk_alloc ?_ _)); exact BK333.out) hb); have n1_ := Aside0.mk (below_step (by repeat (first | (with_reducible first | exact HB.out | apply below_alloc | apply pw_below_drewN | apply below_drew1 | refine below_set ?_ GE333.out) | exact HB.out)) hb); clear BK333; clear HB; have BK333 := n0_; have HB := n1_; clear n0_ n1_; (try clear hb); (try clear hb2); (try clear hk); (try clear hi)) | ((with_reducible refine gate_dst (N := 10) rfl ?_); refine box_event ?hg (N := 10) ?hd (cs := #[.int .i64 0, .int .i64 0, .int .i64 0]) (t := 49) ?hr ?_; (case hd => rfl); (case hg => rfl); (case hr => first | (go_simp; done) | (go_simp; rfl)); intro gb337 hg w29 hbox hb; have n0_ := Aside0.mk (blk_below (g := gb333) (o := .cells #[.int .i64 t329, .int .i64 t330, .int .i64 t331] 23 (0, 0)) (by (with_reducible repeat (first | refine blk_drewN ?_ _ | refine blk_drew ?_ | refine blk_alloc ?_ _)); exact BK333.out) hb); have n1_ := Aside0.mk (below_step (by repeat (first | (with_reducible first | exact HB.out | apply below_alloc | apply pw_below_drewN | apply below_drew1 | refine below_set ?_ GE333.out) | exact HB.out)) hb); have n2_ := Aside0.mk (hbox); have n3_ := Aside0.mk ((by rw [hg]; exact (below_size (by repeat (first | (with_reducible first | exact HB.out | apply below_alloc | apply pw_below_drewN | apply below_drew1 | refine below_set ?_ GE333.out) | exact HB.out))) : w.heap.size ≤ gb337)); have n4_ := Aside0.mk ((by rw [hg]; exact (below_size (by repeat (first | (with_reducible first | exact HB.out | apply below_alloc | apply pw_below_drewN | apply below_drew1 | refine below_set ?_ GE333.out) | exact HB.out))) : w.heap.size ≤ gb337)); have n5_ := Aside0.mk ((by rw [hg]; exact Nat.ne_of_lt (blk_lt (g := gb333) (o := .cells #[.int .i64 t329, .int .i64 t330, .int .i64 t331] 23 (0, 0)) (by (with_reducible repeat (first | refine blk_drewN ?_ _ | refine blk_drew ?_ | refine blk_alloc ?_ _)); exact BK333.out)) : gb333 ≠ gb337)); have n6_ := Aside0.mk ((by rw [hg]; exact Nat.ne_of_gt (blk_lt (g := gb333) (o := .cells #[.int .i64 t329, .int .i64 t330, .int .i64 t331] 23 (0, 0)) (by (with_reducible repeat (first | refine blk_drewN ?_ _ | refine blk_drew ?_ | refine blk_alloc ?_ _)); exact BK333.out)) : gb337 ≠ gb333)); clear BK333; clear HB; have BK333 := n0_; have HB := n1_; have BK337 := n2_; have GW337 := n3_; have GE337 := n4_; have NB333_337 := n5_; have NB337_333 := n6_; clear n0_ n1_ n2_ n3_ n4_ n5_ n6_; clear hb hbox hg; have hnb30 := NB337_333.out; have hnc30 := NB333_337.out; have hcz31_0 : w29.cell? ⟨gb337, 0, none⟩ = some (.int .i64 0) := (blk_cell BK337.out 0).trans rfl; have hcz31_1 : w29.cell? ⟨gb337, 1, none⟩ = some (.int .i64 0) := (blk_cell BK337.out 1).trans rfl; have hcz31_2 : w29.cell? ⟨gb337, 2, none⟩ = some (.int .i64 0) := (blk_cell BK337.out 2).trans rfl; have hfz31_0 := blk_frozen BK337.out 0; have hfz31_1 := blk_frozen BK337.out 1; have hfz31_2 := blk_frozen BK337.out 2))
                          have n0_ : Aside0 ((((w29.setCell ⟨gb337, 0, none⟩ (.int .i64 t334)).setCell ⟨gb337, 1, none⟩ (.int .i64 t335)).setCell ⟨gb337, 2, none⟩ (.int .i64 t336)).heap[gb333]? = some (.cells #[.int .i64 t329, .int .i64 t330, .int .i64 t331] 23 (0, 0))) := ⟨by (with_reducible repeat (first | refine blk_drewN ?_ _ | refine blk_drew ?_ | refine blk_alloc ?_ _)); refine blk_far ?_ NB333_337.out _; (with_reducible repeat (first | refine blk_drewN ?_ _ | refine blk_drew ?_ | refine blk_alloc ?_ _)); refine blk_far ?_ NB333_337.out _; (with_reducible repeat (first | refine blk_drewN ?_ _ | refine blk_drew ?_ | refine blk_alloc ?_ _)); refine blk_far ?_ NB333_337.out _; (with_reducible repeat (first | refine blk_drewN ?_ _ | refine blk_drew ?_ | refine blk_alloc ?_ _)); exact BK333.out⟩
                          have n1_ : Aside0 ((((w29.setCell ⟨gb337, 0, none⟩ (.int .i64 t334)).setCell ⟨gb337, 1, none⟩ (.int .i64 t335)).setCell ⟨gb337, 2, none⟩ (.int .i64 t336)).heap[gb337]? = some (.cells #[.int .i64 t334, .int .i64 t335, .int .i64 t336] 49 (0, 0))) := ⟨by (with_reducible repeat (first | refine blk_drewN ?_ _ | refine blk_drew ?_ | refine blk_alloc ?_ _)); refine blk_put (cs := #[.int .i64 t334, .int .i64 t335, .int .i64 0]) ?_ 2 _ rfl; (with_reducible repeat (first | refine blk_drewN ?_ _ | refine blk_drew ?_ | refine blk_alloc ?_ _)); refine blk_put (cs := #[.int .i64 t334, .int .i64 0, .int .i64 0]) ?_ 1 _ rfl; (with_reducible repeat (first | refine blk_drewN ?_ _ | refine blk_drew ?_ | refine blk_alloc ?_ _)); refine blk_put (cs := #[.int .i64 0, .int .i64 0, .int .i64 0]) ?_ 0 _ rfl; (with_reducible repeat (first | refine blk_drewN ?_ _ | refine blk_drew ?_ | refine blk_alloc ?_ _)); exact BK337.out⟩
                          have n2_ : Aside0 (Below w.heap.size w (((w29.setCell ⟨gb337, 0, none⟩ (.int .i64 t334)).setCell ⟨gb337, 1, none⟩ (.int .i64 t335)).setCell ⟨gb337, 2, none⟩ (.int .i64 t336))) := ⟨by repeat (first | (with_reducible first | exact HB.out | apply below_alloc | apply pw_below_drewN | apply below_drew1 | refine below_set ?_ GE333.out | refine below_set ?_ GE337.out) | exact HB.out)⟩
                          (try clear BK333)
                          (try clear BK337)
                          (try clear HB)
                          generalize (((w29.setCell ⟨gb337, 0, none⟩ (.int .i64 t334)).setCell ⟨gb337, 1, none⟩ (.int .i64 t335)).setCell ⟨gb337, 2, none⟩ (.int .i64 t336)) = w32 at n0_ n1_ n2_ ⊢
                          have BK333 := n0_
                          have BK337 := n1_
                          have HB := n2_
                          clear n0_ n1_ n2_
                          have n0_ := Aside0.mk (blk_drew BK333.out)
                          have n1_ := Aside0.mk (blk_drew BK337.out)
                          have n2_ := Aside0.mk (below_drew1 HB.out)
                          clear BK333
                          clear BK337
                          clear HB
                          have BK333 := n0_
                          have BK337 := n1_
                          have HB := n2_
                          clear n0_ n1_ n2_
                          refine start_ (n := 23) (S := fun w' => w'.cell? ⟨gb333, 0, none⟩ = some (.int .i64 t329) ∧ w'.cell? ⟨gb333, 1, none⟩ = some (.int .i64 t330) ∧ w'.cell? ⟨gb333, 2, none⟩ = some (.int .i64 t331) ∧ w'.cell? ⟨gb337, 0, none⟩ = some (.int .i64 t334) ∧ w'.cell? ⟨gb337, 1, none⟩ = some (.int .i64 t335) ∧ w'.cell? ⟨gb337, 2, none⟩ = some (.int .i64 t336)) (ds := []) #[false, false, false, false, false, false, false, false, false, false, false, false, false, false, false, false, false, false, false, false, false, false, false] (by kernel_rfl) rfl rfl ⟨(blk_cell BK333.out 0).trans rfl, (blk_cell BK333.out 1).trans rfl, (blk_cell BK333.out 2).trans rfl, (blk_cell BK337.out 0).trans rfl, (blk_cell BK337.out 1).trans rfl, (blk_cell BK337.out 2).trans rfl⟩ (fun hHeld => ?_); refine with_tabW fuseeref08_Stamp.tab7 fuseeref08_Stamp.bits7 (fun HT_ HW_ => ?_)
                          generalize w32.drew = w33 at BK333 BK337 HB hHeld ⊢
                          refine pure_ (i := 3) (N := some 38) (v := ?_) (a' := ?_) #[false, false, false, true, false, false, false, false, false, false, false, false, false, false, false, false, false, false, false, false, false, false, false] rfl rfl (any_of HT_.out (by kernel_rfl)) (fun _ _ _ h => h) (Or.inl ⟨by rfl, ?_⟩) ?_ ?_
                          rotate_left
                          · intro w'
                            go_simp
                            with_reducible rfl
                          rotate_left
                          · simp only [Act.put, List.setIfInBounds_toArray, List.set_cons_zero, List.set_cons_succ, i64_w, i32_w]
                            rfl
                          refine pure_ (i := 8) (N := some 43) (v := ?_) (a' := ?_) #[false, false, false, true, false, false, false, false, true, false, false, false, false, false, false, false, false, false, false, false, false, false, false] rfl rfl (any_of HT_.out (by kernel_rfl)) (fun _ _ _ h => h) (Or.inl ⟨by rfl, ?_⟩) ?_ ?_
                          rotate_left
                          · intro w'
                            go_simp
                            with_reducible rfl
                          rotate_left
                          · simp only [Act.put, List.setIfInBounds_toArray, List.set_cons_zero, List.set_cons_succ, i64_w, i32_w]
                            rfl
                          refine pure_ (i := 13) (N := some 48) (v := ?_) (a' := ?_) #[false, false, false, true, false, false, false, false, true, false, false, false, false, true, false, false, false, false, false, false, false, false, false] rfl rfl (any_of HT_.out (by kernel_rfl)) (fun _ _ _ h => h) (Or.inl ⟨by rfl, ?_⟩) ?_ ?_
                          rotate_left
                          · intro w'
                            go_simp
                            with_reducible rfl
                          rotate_left
                          · simp only [Act.put, List.setIfInBounds_toArray, List.set_cons_zero, List.set_cons_succ, i64_w, i32_w]
                            rfl
                          refine pure_ (i := 18) (N := some 53) (v := ?_) (a' := ?_) #[false, false, false, true, false, false, false, false, true, false, false, false, false, true, false, false, false, false, true, false, false, false, false] rfl rfl (any_of HT_.out (by kernel_rfl)) (fun _ _ _ h => h) (Or.inl ⟨by rfl, ?_⟩) ?_ ?_
                          rotate_left
                          · intro w'
                            go_simp
                            with_reducible rfl
                          rotate_left
                          · simp only [Act.put, List.setIfInBounds_toArray, List.set_cons_zero, List.set_cons_succ, i64_w, i32_w]
                            rfl
                          refine take_ (i := 0) (N := some 35) (v := ?_) (a' := ?_) #[true, false, false, true, false, false, false, false, true, false, false, false, false, true, false, false, false, false, true, false, false, false, false] rfl rfl (take_ofW HT_.out HW_.out (by kernel_rfl)) (fun _ _ _ h => h) (Or.inl ⟨by rfl, ?_⟩) hHeld ?_ ?_
                          rotate_left
                          · rintro w' ⟨s0, s1, s2, s3, s4, s5⟩
                            go_simp
                            with_reducible rfl
                          rotate_left
                          · simp only [Act.put, List.setIfInBounds_toArray, List.set_cons_zero, List.set_cons_succ, i64_w, i32_w]
                            rfl
                          refine take_ (i := 4) (N := some 39) (v := ?_) (a' := ?_) #[true, false, false, true, true, false, false, false, true, false, false, false, false, true, false, false, false, false, true, false, false, false, false] rfl rfl (take_ofW HT_.out HW_.out (by kernel_rfl)) (fun _ _ _ h => h) (Or.inl ⟨by rfl, ?_⟩) hHeld ?_ ?_
                          rotate_left
                          · rintro w' ⟨s0, s1, s2, s3, s4, s5⟩
                            go_simp
                            with_reducible rfl
                          rotate_left
                          · simp only [Act.put, List.setIfInBounds_toArray, List.set_cons_zero, List.set_cons_succ, i64_w, i32_w]
                            rfl
                          refine take_ (i := 9) (N := some 44) (v := ?_) (a' := ?_) #[true, false, false, true, true, false, false, false, true, true, false, false, false, true, false, false, false, false, true, false, false, false, false] rfl rfl (take_ofW HT_.out HW_.out (by kernel_rfl)) (fun _ _ _ h => h) (Or.inl ⟨by rfl, ?_⟩) hHeld ?_ ?_
                          rotate_left
                          · rintro w' ⟨s0, s1, s2, s3, s4, s5⟩
                            go_simp
                            with_reducible rfl
                          rotate_left
                          · simp only [Act.put, List.setIfInBounds_toArray, List.set_cons_zero, List.set_cons_succ, i64_w, i32_w]
                            rfl
                          refine take_ (i := 14) (N := some 49) (v := ?_) (a' := ?_) #[true, false, false, true, true, false, false, false, true, true, false, false, false, true, true, false, false, false, true, false, false, false, false] rfl rfl (take_ofW HT_.out HW_.out (by kernel_rfl)) (fun _ _ _ h => h) (Or.inl ⟨by rfl, ?_⟩) hHeld ?_ ?_
                          rotate_left
                          · rintro w' ⟨s0, s1, s2, s3, s4, s5⟩
                            go_simp
                            with_reducible rfl
                          rotate_left
                          · simp only [Act.put, List.setIfInBounds_toArray, List.set_cons_zero, List.set_cons_succ, i64_w, i32_w]
                            rfl
                          refine one_ (i := 1) (N := some 36) #[true, true, false, true, true, false, false, false, true, true, false, false, false, true, true, false, false, false, true, false, false, false, false] rfl rfl (one_of HT_.out (by kernel_rfl)) (by decide) (fun K hK => ?_)
                          refine goes_ Tryz.func29 (by kernel_rfl) rfl #[.agg #[.int .i64 t329, .int .i64 t330, .int .i64 t331]] (by rfl) rfl rfl (by (try simp only [List.map_toArray, List.map_cons, List.map_nil]); first | done | rfl | (simp only [List.length_drop, List.length_take]; rfl)) ?_
                          with_reducible refine (fuseeref07_Text.calls kj3 t329 t330 t331 t338 _ A12.out).mono ?_
                          rintro e w34 ⟨rfl, hb⟩
                          refine ⟨_, rfl, ?_⟩
                          have n0_ := Aside0.mk (blk_below (g := gb333) (o := .cells #[.int .i64 t329, .int .i64 t330, .int .i64 t331] 23 (0, 0)) (by (with_reducible repeat (first | refine blk_drewN ?_ _ | refine blk_drew ?_ | refine blk_alloc ?_ _)); exact BK333.out) hb)
                          have n1_ := Aside0.mk (blk_below (g := gb337) (o := .cells #[.int .i64 t334, .int .i64 t335, .int .i64 t336] 49 (0, 0)) (by (with_reducible repeat (first | refine blk_drewN ?_ _ | refine blk_drew ?_ | refine blk_alloc ?_ _)); exact BK337.out) hb)
                          have n2_ := Aside0.mk (below_step (by repeat (first | (with_reducible first | exact HB.out | apply below_alloc | apply pw_below_drewN | apply below_drew1 | refine below_set ?_ GE333.out | refine below_set ?_ GE337.out) | exact HB.out)) hb)
                          clear BK333
                          clear BK337
                          clear HB
                          have BK333 := n0_
                          have BK337 := n1_
                          have HB := n2_
                          clear n0_ n1_ n2_
                          (try clear hb)
                          (try clear hb2)
                          (try clear hk)
                          (try clear hi)
                          refine hK.out _ _ ⟨(blk_cell BK333.out 0).trans rfl, (blk_cell BK333.out 1).trans rfl, (blk_cell BK333.out 2).trans rfl, (blk_cell BK337.out 0).trans rfl, (blk_cell BK337.out 1).trans rfl, (blk_cell BK337.out 2).trans rfl⟩ (fun hHeld => ?_)
                          clear hK K
                          refine norm_ (a' := ?_) ?_ ?_
                          rotate_left
                          · show Act.put _ (some 36) _ = _
                            simp only [Act.put, List.setIfInBounds_toArray, List.set_cons_zero, List.set_cons_succ, i64_w, i32_w]
                            rfl
                          refine pure_ (i := 2) (N := some 37) (v := ?_) (a' := ?_) #[true, true, true, true, true, false, false, false, true, true, false, false, false, true, true, false, false, false, true, false, false, false, false] rfl rfl (any_of HT_.out (by kernel_rfl)) (fun _ _ _ h => h) (Or.inl ⟨by rfl, ?_⟩) ?_ ?_
                          rotate_left
                          · intro w'
                            go_simp
                            with_reducible rfl
                          rotate_left
                          · simp only [Act.put, List.setIfInBounds_toArray, List.set_cons_zero, List.set_cons_succ, i64_w, i32_w]
                            rfl
                          refine one_ (i := 5) (N := some 40) #[true, true, true, true, true, true, false, false, true, true, false, false, false, true, true, false, false, false, true, false, false, false, false] rfl rfl (one_of HT_.out (by kernel_rfl)) (by decide) (fun K hK => ?_)
                          refine goes_ Tryz.func99 (by kernel_rfl) rfl #[.int .i64 t334, .int .i64 2] (by rfl) rfl rfl (by (try simp only [List.map_toArray, List.map_cons, List.map_nil]); first | done | rfl | (simp only [List.length_drop, List.length_take]; rfl)) ?_
                          with_reducible refine (fuseeref07_Two.calls kj3 t334 2 t339 _ A14.out).mono ?_
                          rintro e w' ⟨rfl, ⟨nd, rfl⟩⟩
                          refine ⟨_, rfl, ?_⟩
                          refine hK.out _ _ ⟨(blk_cell BK333.out 0).trans rfl, (blk_cell BK333.out 1).trans rfl, (blk_cell BK333.out 2).trans rfl, (blk_cell BK337.out 0).trans rfl, (blk_cell BK337.out 1).trans rfl, (blk_cell BK337.out 2).trans rfl⟩ (fun hHeld => ?_)
                          clear hK K
                          refine norm_ (a' := ?_) ?_ ?_
                          rotate_left
                          · show Act.put _ (some 40) _ = _
                            simp only [Act.put, List.setIfInBounds_toArray, List.set_cons_zero, List.set_cons_succ, i64_w, i32_w]
                            rfl
                          refine pure_ (i := 6) (N := some 41) (v := ?_) (a' := ?_) #[true, true, true, true, true, true, true, false, true, true, false, false, false, true, true, false, false, false, true, false, false, false, false] rfl rfl (any_of HT_.out (by kernel_rfl)) (fun _ _ _ h => h) (Or.inl ⟨by rfl, ?_⟩) ?_ ?_
                          rotate_left
                          · intro w'
                            go_simp
                            with_reducible rfl
                          rotate_left
                          · simp only [Act.put, List.setIfInBounds_toArray, List.set_cons_zero, List.set_cons_succ, i64_w, i32_w]
                            rfl
                          refine pure_ (i := 7) (N := some 42) (v := ?_) (a' := ?_) #[true, true, true, true, true, true, true, true, true, true, false, false, false, true, true, false, false, false, true, false, false, false, false] rfl rfl (any_of HT_.out (by kernel_rfl)) (fun _ _ _ h => h) (Or.inl ⟨by rfl, ?_⟩) ?_ ?_
                          rotate_left
                          · intro w'
                            go_simp
                            with_reducible rfl
                          rotate_left
                          · simp only [Act.put, List.setIfInBounds_toArray, List.set_cons_zero, List.set_cons_succ, i64_w, i32_w]
                            rfl
                          refine one_ (i := 10) (N := some 45) #[true, true, true, true, true, true, true, true, true, true, true, false, false, true, true, false, false, false, true, false, false, false, false] rfl rfl (one_of HT_.out (by kernel_rfl)) (by decide) (fun K hK => ?_)
                          refine goes_ Tryz.func99 (by kernel_rfl) rfl #[.int .i64 t335, .int .i64 2] (by rfl) rfl rfl (by (try simp only [List.map_toArray, List.map_cons, List.map_nil]); first | done | rfl | (simp only [List.length_drop, List.length_take]; rfl)) ?_
                          with_reducible refine (fuseeref07_Two.calls kj3 t335 2 t340 _ A17.out).mono ?_
                          rintro e w' ⟨rfl, ⟨nd, rfl⟩⟩
                          refine ⟨_, rfl, ?_⟩
                          refine hK.out _ _ ⟨(blk_cell BK333.out 0).trans rfl, (blk_cell BK333.out 1).trans rfl, (blk_cell BK333.out 2).trans rfl, (blk_cell BK337.out 0).trans rfl, (blk_cell BK337.out 1).trans rfl, (blk_cell BK337.out 2).trans rfl⟩ (fun hHeld => ?_)
                          clear hK K
                          refine norm_ (a' := ?_) ?_ ?_
                          rotate_left
                          · show Act.put _ (some 45) _ = _
                            simp only [Act.put, List.setIfInBounds_toArray, List.set_cons_zero, List.set_cons_succ, i64_w, i32_w]
                            rfl
                          refine pure_ (i := 11) (N := some 46) (v := ?_) (a' := ?_) #[true, true, true, true, true, true, true, true, true, true, true, true, false, true, true, false, false, false, true, false, false, false, false] rfl rfl (any_of HT_.out (by kernel_rfl)) (fun _ _ _ h => h) (Or.inl ⟨by rfl, ?_⟩) ?_ ?_
                          rotate_left
                          · intro w'
                            go_simp
                            with_reducible rfl
                          rotate_left
                          · simp only [Act.put, List.setIfInBounds_toArray, List.set_cons_zero, List.set_cons_succ, i64_w, i32_w]
                            rfl
                          refine pure_ (i := 12) (N := some 47) (v := ?_) (a' := ?_) #[true, true, true, true, true, true, true, true, true, true, true, true, true, true, true, false, false, false, true, false, false, false, false] rfl rfl (any_of HT_.out (by kernel_rfl)) (fun _ _ _ h => h) (Or.inl ⟨by rfl, ?_⟩) ?_ ?_
                          rotate_left
                          · intro w'
                            go_simp
                            with_reducible rfl
                          rotate_left
                          · simp only [Act.put, List.setIfInBounds_toArray, List.set_cons_zero, List.set_cons_succ, i64_w, i32_w]
                            rfl
                          refine one_ (i := 15) (N := some 50) #[true, true, true, true, true, true, true, true, true, true, true, true, true, true, true, true, false, false, true, false, false, false, false] rfl rfl (one_of HT_.out (by kernel_rfl)) (by decide) (fun K hK => ?_)
                          refine goes_ Tryz.func99 (by kernel_rfl) rfl #[.int .i64 t336, .int .i64 2] (by rfl) rfl rfl (by (try simp only [List.map_toArray, List.map_cons, List.map_nil]); first | done | rfl | (simp only [List.length_drop, List.length_take]; rfl)) ?_
                          with_reducible refine (fuseeref07_Two.calls kj3 t336 2 t341 _ A20.out).mono ?_
                          rintro e w' ⟨rfl, ⟨nd, rfl⟩⟩
                          refine ⟨_, rfl, ?_⟩
                          refine hK.out _ _ ⟨(blk_cell BK333.out 0).trans rfl, (blk_cell BK333.out 1).trans rfl, (blk_cell BK333.out 2).trans rfl, (blk_cell BK337.out 0).trans rfl, (blk_cell BK337.out 1).trans rfl, (blk_cell BK337.out 2).trans rfl⟩ (fun hHeld => ?_)
                          clear hK K
                          refine norm_ (a' := ?_) ?_ ?_
                          rotate_left
                          · show Act.put _ (some 50) _ = _
                            simp only [Act.put, List.setIfInBounds_toArray, List.set_cons_zero, List.set_cons_succ, i64_w, i32_w]
                            rfl
                          refine pure_ (i := 16) (N := some 51) (v := ?_) (a' := ?_) #[true, true, true, true, true, true, true, true, true, true, true, true, true, true, true, true, true, false, true, false, false, false, false] rfl rfl (any_of HT_.out (by kernel_rfl)) (fun _ _ _ h => h) (Or.inl ⟨by rfl, ?_⟩) ?_ ?_
                          rotate_left
                          · intro w'
                            go_simp
                            with_reducible rfl
                          rotate_left
                          · simp only [Act.put, List.setIfInBounds_toArray, List.set_cons_zero, List.set_cons_succ, i64_w, i32_w]
                            rfl
                          refine pure_ (i := 17) (N := some 52) (v := ?_) (a' := ?_) #[true, true, true, true, true, true, true, true, true, true, true, true, true, true, true, true, true, true, true, false, false, false, false] rfl rfl (any_of HT_.out (by kernel_rfl)) (fun _ _ _ h => h) (Or.inl ⟨by rfl, ?_⟩) ?_ ?_
                          rotate_left
                          · intro w'
                            go_simp
                            with_reducible rfl
                          rotate_left
                          · simp only [Act.put, List.setIfInBounds_toArray, List.set_cons_zero, List.set_cons_succ, i64_w, i32_w]
                            rfl
                          refine one_ (i := 19) (N := some 54) #[true, true, true, true, true, true, true, true, true, true, true, true, true, true, true, true, true, true, true, true, false, false, false] rfl rfl (one_of HT_.out (by kernel_rfl)) (by decide) (fun K hK => ?_)
                          refine goes_ Tryz.func99 (by kernel_rfl) rfl #[.int .i64 a2, .int .i64 9] (by rfl) rfl rfl (by (try simp only [List.map_toArray, List.map_cons, List.map_nil]); first | done | rfl | (simp only [List.length_drop, List.length_take]; rfl)) ?_
                          with_reducible refine (fuseeref07_Two.calls kj3 a2 9 t342 _ A23.out).mono ?_
                          rintro e w' ⟨rfl, ⟨nd, rfl⟩⟩
                          refine ⟨_, rfl, ?_⟩
                          refine hK.out _ _ ⟨(blk_cell BK333.out 0).trans rfl, (blk_cell BK333.out 1).trans rfl, (blk_cell BK333.out 2).trans rfl, (blk_cell BK337.out 0).trans rfl, (blk_cell BK337.out 1).trans rfl, (blk_cell BK337.out 2).trans rfl⟩ (fun hHeld => ?_)
                          clear hK K
                          refine norm_ (a' := ?_) ?_ ?_
                          rotate_left
                          · show Act.put _ (some 54) _ = _
                            simp only [Act.put, List.setIfInBounds_toArray, List.set_cons_zero, List.set_cons_succ, i64_w, i32_w]
                            rfl
                          refine pure_ (i := 20) (N := some 55) (v := ?_) (a' := ?_) #[true, true, true, true, true, true, true, true, true, true, true, true, true, true, true, true, true, true, true, true, true, false, false] rfl rfl (any_of HT_.out (by kernel_rfl)) (fun _ _ _ h => h) (Or.inl ⟨by rfl, ?_⟩) ?_ ?_
                          rotate_left
                          · intro w'
                            go_simp
                            with_reducible rfl
                          rotate_left
                          · simp only [Act.put, List.setIfInBounds_toArray, List.set_cons_zero, List.set_cons_succ, i64_w, i32_w]
                            rfl
                          refine pure_ (i := 21) (N := some 6) (v := ?_) (a' := ?_) #[true, true, true, true, true, true, true, true, true, true, true, true, true, true, true, true, true, true, true, true, true, true, false] rfl rfl (any_of HT_.out (by kernel_rfl)) (fun _ _ _ h => h) (Or.inl ⟨by rfl, ?_⟩) ?_ ?_
                          rotate_left
                          · intro w'
                            go_simp
                            with_reducible rfl
                          rotate_left
                          · simp only [Act.put, List.setIfInBounds_toArray, List.set_cons_zero, List.set_cons_succ, i64_w, i32_w]
                            rfl
                          refine pure_ (i := 22) (N := some 7) (v := ?_) (a' := ?_) #[true, true, true, true, true, true, true, true, true, true, true, true, true, true, true, true, true, true, true, true, true, true, true] rfl rfl (any_of HT_.out (by kernel_rfl)) (fun _ _ _ h => h) (Or.inl ⟨by rfl, ?_⟩) ?_ ?_
                          rotate_left
                          · intro w'
                            go_simp
                            with_reducible rfl
                          rotate_left
                          · simp only [Act.put, List.setIfInBounds_toArray, List.set_cons_zero, List.set_cons_succ, i64_w, i32_w]
                            rfl
                          refine done_ (done_of HT_.out (by kernel_rfl)) ?_
                          try go_wp2
                          go_ret2
                          exact ⟨by first | rfl | (simp [errW_none, errW_some] <;> rfl) | (simp [*, errW_none, errW_some] <;> rfl), by repeat (first | (with_reducible first | exact HB.out | apply below_alloc | apply pw_below_drewN | apply below_drew1 | refine below_set ?_ GE333.out | refine below_set ?_ GE337.out) | exact HB.out)⟩
                        · rw [if_neg c24] at H
                          exact absurd H (by simp)
                      · rw [if_neg c22] at H
                        exact absurd H (by simp)
                    · rw [if_neg c21] at H
                      exact absurd H (by simp)
                  · rw [if_neg c19] at H
                    exact absurd H (by simp)
                · rw [if_neg c18] at H
                  exact absurd H (by simp)
              · rw [if_neg c16] at H
                exact absurd H (by simp)
            · rw [if_neg c15] at H
              exact absurd H (by simp)
          · rw [if_neg c13] at H
            exact absurd H (by simp)
        · rw [if_neg c10] at H
          have c10b0 : (t332 == 0) = false := beq_eq_false_iff_ne.mpr c10
          have c10b1 : (t332 != 0) = true := bne_iff_ne.mpr c10
          simp only [Option.some.injEq, Prod.mk.injEq] at H
          obtain ⟨rfl, rfl⟩ := H
          go_wp2_with (first | ((with_reducible refine gate_callee (f := 25) rfl ?_); refine goesL_ (some 27) rfl rfl Tryz.func25 (by kernel_rfl) rfl #[.int .i64 a0] rfl (by (try simp only [List.map_toArray, List.map_cons, List.map_nil]); first | done | rfl | (simp only [List.length_drop, List.length_take]; rfl)) ?_; (with_reducible refine (fuseeref07_Of.calls kj3 a0 t329 t330 t331 t332 _ A9.out).mono ?_); rintro e w35 ⟨rfl, hb⟩; refine ⟨_, rfl, ?_⟩; have n0_ := Aside0.mk (below_step (by repeat (first | (with_reducible first | exact HB.out | apply below_alloc | apply pw_below_drewN | apply below_drew1) | exact HB.out)) hb); clear HB; have HB := n0_; clear n0_; (try clear hb); (try clear hb2); (try clear hk); (try clear hi)) | ((with_reducible refine gate_dst (N := 8) rfl ?_); refine box_event ?hg (N := 8) ?hd (cs := #[.int .i64 0, .int .i64 0, .int .i64 0]) (t := 23) ?hr ?_; (case hd => rfl); (case hg => rfl); (case hr => first | (go_simp; done) | (go_simp; rfl)); intro gb333 hg w36 hbox hb; have n0_ := Aside0.mk (below_step (by repeat (first | (with_reducible first | exact HB.out | apply below_alloc | apply pw_below_drewN | apply below_drew1) | exact HB.out)) hb); have n1_ := Aside0.mk (hbox); have n2_ := Aside0.mk ((by rw [hg]; exact (below_size (by repeat (first | (with_reducible first | exact HB.out | apply below_alloc | apply pw_below_drewN | apply below_drew1) | exact HB.out))) : w.heap.size ≤ gb333)); have n3_ := Aside0.mk ((by rw [hg]; exact (below_size (by repeat (first | (with_reducible first | exact HB.out | apply below_alloc | apply pw_below_drewN | apply below_drew1) | exact HB.out))) : w.heap.size ≤ gb333)); clear HB; have HB := n0_; have BK333 := n1_; have GW333 := n2_; have GE333 := n3_; clear n0_ n1_ n2_ n3_; clear hb hbox hg; have hcz37_0 : w36.cell? ⟨gb333, 0, none⟩ = some (.int .i64 0) := (blk_cell BK333.out 0).trans rfl; have hcz37_1 : w36.cell? ⟨gb333, 1, none⟩ = some (.int .i64 0) := (blk_cell BK333.out 1).trans rfl; have hcz37_2 : w36.cell? ⟨gb333, 2, none⟩ = some (.int .i64 0) := (blk_cell BK333.out 2).trans rfl; have hfz37_0 := blk_frozen BK333.out 0; have hfz37_1 := blk_frozen BK333.out 1; have hfz37_2 := blk_frozen BK333.out 2))
          go_ret2
          exact ⟨by first | rfl | (simp [errW_none, errW_some] <;> rfl) | (simp [*, errW_none, errW_some] <;> rfl), by repeat (first | (with_reducible first | exact HB.out | apply below_alloc | apply pw_below_drewN | apply below_drew1 | refine below_set ?_ GE333.out) | exact HB.out)⟩

end Go.Proofs.YtfjifhkgifefeaaGreatDoor.PA
end

section
/- What the printed daytime.Stamp and the document's Stamp answer. -/
namespace Go.Proofs.YtfjifhkgifefeaaGreatDoor.CivP
open Go.RowKit Go.Proofs.YtfjifhkgifefeaaGreatDoor.PA Go.Proofs.YtfjifhkgifefeaaGreatDoor.CivM Go.Proofs.YtfjifhkgifefeaaGreatDoor.StrM Go.Proofs.YtfjifhkgifefeaaGreatDoor.Giv Go.Proofs.YtfjifhkgifefeaaGreatDoorW.PrintWords

def stext (y m d n nano : Int) : List UInt8 := dtext y m d ++ 84 :: (digs 2 (tod n).1 ++ 58 :: (digs 2 (tod n).2.1 ++ 58 :: (digs 2 (tod n).2.2 ++ 46 :: digs 9 nano)))
theorem dtext_len {y m d : Int} (v : vld y m d) : (dtext y m d).length = 10 := by rw [dtext_eq v]; rfl
theorem tod_bd (h m s : Int) (v : tvld h m s) : (0 ≤ h ∧ h ≤ 99) ∧ (0 ≤ m ∧ m ≤ 99) ∧ 0 ≤ s ∧ s ≤ 99 := by unfold tvld at v; omega
theorem digs2 (n : Int) (h0 : 0 ≤ n) (h1 : n ≤ 99) : daytime_digits.f n 2 = some ⟨(digs 2 n).toArray⟩ := tdigits n 1 h0 (by show n < 10 ^ 2; omega) (by omega)
theorem digs9 (n : Int) (h0 : 0 ≤ n) (h1 : n ≤ 999999999) : daytime_digits.f n 9 = some ⟨(digs 9 n).toArray⟩ := tdigits n 8 h0 (by show n < 10 ^ 9; omega) (by omega)
theorem dstamp_ok (k : Nat) (y m d sec nano : Int) (hk : 5 ≤ k) (v : vld y m d) (s0 : 0 ≤ sec) (s1 : sec ≤ 86400) (n0 : 0 ≤ nano) (n1 : nano ≤ 999999999) :
    daytime_Stamp.f k (num y m d) sec nano = some (⟨(stext y m d sec nano).toArray⟩, none) := by
  obtain ⟨k, rfl⟩ : ∃ j, k = j + 1 := ⟨k - 1, by omega⟩
  obtain ⟨y', m', d', v', hn, e⟩ := of_ok k (num y m d) (by omega) (num_bd v).1 (num_bd v).2
  obtain ⟨rfl, rfl, rfl⟩ := num_inj v v' hn.symm
  obtain ⟨b1, b2, b3⟩ := tod_bd _ _ _ (tod_vld sec s0 s1)
  unfold daytime_Stamp.f
  have nb : ¬ (sec < 0 ∨ 86400 < sec) := by omega
  rw [tof (k + 1) sec (by omega), if_neg nb]
  simp only [Option.bind_some, Option.isNone_none, if_true]
  rw [if_neg (by omega : ¬ nano < 0), decide_eq_false (by omega : ¬ nano ≥ 1000000000)]
  simp only [daytime_Stamp.j0, Bool.false_eq_true, if_false]
  rw [e]
  simp only [Option.bind_some, Option.isNone_none, if_true]
  rw [text k _ _ _ (by omega), if_pos v]
  have e84 : (⟨#[84]⟩ : ByteArray) = ⟨([84] : List UInt8).toArray⟩ := rfl
  have e58 : (⟨#[58]⟩ : ByteArray) = ⟨([58] : List UInt8).toArray⟩ := rfl
  have e46 : (⟨#[46]⟩ : ByteArray) = ⟨([46] : List UInt8).toArray⟩ := rfl
  simp only [Option.bind_some, Option.isNone_none, if_true, digs2 _ b1.1 b1.2, digs2 _ b2.1 b2.2, digs2 _ b3.1 b3.2, digs9 _ n0 n1, e84, e58, e46, ba_app, ba_size, List.length_append, digs_len, dtext_len v, List.length_cons, List.length_nil]
  repeat rw [if_pos (by omega)]
  simp [stext]
theorem dstamp_arg (k : Nat) (day sec nano : Int) (hk : 2 ≤ k) (h : ¬ (0 ≤ sec ∧ sec ≤ 86400 ∧ 0 ≤ nano ∧ nano ≤ 999999999)) : daytime_Stamp.f k day sec nano = some (⟨#[]⟩, some 1) := by
  obtain ⟨k, rfl⟩ : ∃ j, k = j + 1 := ⟨k - 1, by omega⟩
  unfold daytime_Stamp.f
  rw [tof (k + 1) sec (by omega)]
  by_cases c : sec < 0 ∨ 86400 < sec
  · rw [if_pos c]; simp [daytime_Stamp.j0]
  · rw [if_neg c]
    simp only [Option.bind_some, Option.isNone_none, if_true]
    by_cases a : nano < 0
    · rw [if_pos a]; simp [daytime_Stamp.j0]
    · rw [if_neg a, decide_eq_true (by omega : nano ≥ 1000000000)]; simp [daytime_Stamp.j0]
theorem dstamp_day (k : Nat) (day sec nano : Int) (hk : 5 ≤ k) (w0 : -9223372036854775808 ≤ day) (w1 : day ≤ 9223372036854775807) (hd : day < -719162 ∨ 2932896 < day) (s0 : 0 ≤ sec) (s1 : sec ≤ 86400) (n0 : 0 ≤ nano) (n1 : nano ≤ 999999999) : daytime_Stamp.f k day sec nano = some (⟨#[]⟩, some 2) := by
  obtain ⟨k, rfl⟩ : ∃ j, k = j + 1 := ⟨k - 1, by omega⟩
  unfold daytime_Stamp.f
  have nb : ¬ (sec < 0 ∨ 86400 < sec) := by omega
  rw [tof (k + 1) sec (by omega), if_neg nb]
  simp only [Option.bind_some, Option.isNone_none, if_true]
  rw [if_neg (by omega : ¬ nano < 0), decide_eq_false (by omega : ¬ nano ≥ 1000000000)]
  simp only [daytime_Stamp.j0, Bool.false_eq_true, if_false]
  rw [of_no k day (by omega) w0 w1 hd]
  simp
/-- The document's digits: so many of them, from behind. -/
theorem two_go (k : Nat) : ∀ (w : Nat) (x0 x1 : Int) (l : List UInt8), 0 ≤ x0 → x0 ≤ 9223372036854775807 → w + l.length ≤ 100 → x1 ≤ 100 → x1 = w + l.length → w + 1 ≤ k →
    fuseeref07_Two.l0 k x0 x1 ⟨l.toArray⟩ (l.length : Int) = some ⟨(digs w x0 ++ l).toArray⟩ := by
  intro w
  induction w generalizing k with
  | zero =>
    intro x0 x1 l _ _ _ _ hx hk
    obtain ⟨k, rfl⟩ : ∃ j, k = j + 1 := ⟨k - 1, by omega⟩
    have : x1 = (l.length : Int) := by omega
    rw [this, two_end]; rfl
  | succ w ih =>
    intro x0 x1 l h0 h1 hl h100 hx hk
    obtain ⟨k, rfl⟩ : ∃ j, k = j + 1 := ⟨k - 1, by omega⟩
    rw [two_step k x0 x1 _ l (by omega) h0 h1 (by omega) h100 (by omega)]
    have e : (l.length : Int) + 1 = ((dg (x0 % 10) :: l).length : Int) := by simp
    have h := ih k (x0 / 10) x1 (dg (x0 % 10) :: l) (by omega) (by omega) (by simp; omega) h100 (by simp; omega) (by omega)
    rw [← e] at h
    rw [h]
    simp [digs]
theorem two_w (k w : Nat) (n : Int) (hk : w + 1 ≤ k) (hw : w ≤ 100) (h0 : 0 ≤ n) (h1 : n ≤ 9223372036854775807) : fuseeref07_Two.f k n w = some ⟨(digs w n).toArray⟩ := by
  unfold fuseeref07_Two.f
  have h := two_go k w n w [] h0 h1 (by simp; omega) (by omega) (by simp) hk
  simpa using h
theorem rstamp_ok (k : Nat) (y m d sec nano : Int) (hk : 20010 ≤ k) (v : vld y m d) (s0 : 0 ≤ sec) (s1 : sec ≤ 86400) (n0 : 0 ≤ nano) (n1 : nano ≤ 999999999) :
    fuseeref08_Stamp.f k (num y m d) sec nano = some (⟨(stext y m d sec nano).toArray⟩, 0) := by
  obtain ⟨k, rfl⟩ : ∃ j, k = j + 1 := ⟨k - 1, by omega⟩
  obtain ⟨y', m', d', v', hn, e⟩ := rof_ok k (num y m d) (by omega) (num_bd v).1 (num_bd v).2
  obtain ⟨rfl, rfl, rfl⟩ := num_inj v v' hn.symm
  obtain ⟨b1, b2, b3⟩ := tod_bd _ _ _ (tod_vld sec s0 s1)
  unfold fuseeref08_Stamp.f
  rw [if_neg (by omega), if_neg (by omega), if_neg (by omega), decide_eq_false (by omega : ¬ nano > 999999999)]
  simp only [fuseeref08_Stamp.j0, Bool.false_eq_true, if_false]
  rw [e]
  simp only [Option.bind_some, if_true]
  rw [rtof sec s0 s1]
  simp only [Option.bind_some]
  rw [rtext k _ _ _ (by omega) v]
  have e84 : (⟨#[84]⟩ : ByteArray) = ⟨([84] : List UInt8).toArray⟩ := rfl
  have e58 : (⟨#[58]⟩ : ByteArray) = ⟨([58] : List UInt8).toArray⟩ := rfl
  have e46 : (⟨#[46]⟩ : ByteArray) = ⟨([46] : List UInt8).toArray⟩ := rfl
  have T2 : ∀ n : Int, 0 ≤ n → n ≤ 99 → fuseeref07_Two.f k n 2 = some ⟨(digs 2 n).toArray⟩ := fun n a b => two_w k 2 n (by omega) (by omega) a (by omega)
  have T9 : fuseeref07_Two.f k nano 9 = some ⟨(digs 9 nano).toArray⟩ := two_w k 9 nano (by omega) (by omega) n0 (by omega)
  simp only [Option.bind_some, T2 _ b1.1 b1.2, T2 _ b2.1 b2.2, T2 _ b3.1 b3.2, T9, e84, e58, e46, ba_app, ba_size, List.length_append, digs_len, dtext_len v, List.length_cons, List.length_nil]
  repeat rw [if_pos (by omega)]
  simp [stext]
end Go.Proofs.YtfjifhkgifefeaaGreatDoor.CivP
end

section
namespace Go.Proofs.YtfjifhkgifefeaaGreatDoor.PA
open Go.Proofs.YtfjifhkgifefeaaGreatDoor.Giv Go.RowKit Go.Proofs.YtfjifhkgifefeaaGreatDoorW.PrintWords Go.Proofs.YtfjifhkgifefeaaGreatDoorW.PrintLast Go.Proofs.YtfjifhkgifefeaaGreatDoorW.PrintMore
attribute [local go_sem] max2_int min2_int max_two min_two max_three min_three max_four min_four   -- for this text's walks alone
set_option linter.unusedVariables false
set_option linter.unusedSimpArgs false

/-! ### fuseelaw07_sure: function 15 -/
def fuseelaw07_sure.f (k : Nat)  : Option (Bool) := (civil_Days.f k 2000 2 29).bind fun bt149 => ((civil_Of.f k 0).bind fun bt151 => ((civil_Text.f k bt151.1 bt151.2.1 bt151.2.2.1).bind fun bt156 => ((civil_Parse.f (⟨#[50, 48, 48, 49, 45, 48, 50, 45, 50, 57]⟩ : ByteArray)).bind fun bt158 => (if bt149.2.isNone = true then (if bt151.2.2.2.isNone = true then (if bt156.2.isNone = true then (if bt149.1 = 11016 then ((civil_Weekday.f bt149.1).bind fun t166 => (if t166 = 2 then (if bt156.1.toList = ([49, 57, 55, 48, 45, 48, 49, 45, 48, 49] : List UInt8) then ((fuseelaw07_num.f bt158.2.2.2).bind fun t167 => (if t167 = 3 then ((civil_Leap.f 2000).bind fun t168 => (if t168 = true then ((civil_Month.f k 1900 2).bind fun t169 => (some (t169 == 28))) else (some false))) else (some false))) else (some false)) else (some false))) else (some false)) else (some false)) else (some false)) else (some false)))))
end Go.Proofs.YtfjifhkgifefeaaGreatDoor.PA
end

section
/- The closed part of the civil laws ('sure'): it is true. -/
namespace Go.Proofs.YtfjifhkgifefeaaGreatDoor.CivP
open Go.RowKit Go.Proofs.YtfjifhkgifefeaaGreatDoor.PA Go.Proofs.YtfjifhkgifefeaaGreatDoor.CivM Go.Proofs.YtfjifhkgifefeaaGreatDoor.StrM Go.Proofs.YtfjifhkgifefeaaGreatDoor.Giv Go.Proofs.YtfjifhkgifefeaaGreatDoorW.PrintWords

theorem of_zero (k : Nat) (hk : 3 ≤ k) : civil_Of.f k 0 = some (1970, 1, 1, none) := by
  obtain ⟨y, m, d, v, hn, r⟩ := of_ok k 0 hk (by omega) (by omega)
  have v2 : vld 1970 1 1 := by decide
  have n2 : num 1970 1 1 = 0 := by decide
  obtain ⟨rfl, rfl, rfl⟩ := num_inj v v2 (by rw [hn, n2])
  exact r
end Go.Proofs.YtfjifhkgifefeaaGreatDoor.CivP
end

