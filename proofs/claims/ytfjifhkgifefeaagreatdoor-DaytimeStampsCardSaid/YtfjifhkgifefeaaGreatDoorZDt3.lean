/- DaytimeStamps, whole: any day, second and nanoseconds as a text, and those of any text, or the errors. No condition. -/
import Derived.Test.YtfjifhkgifefeaaGreatDoorZDt2
import Derived.Lib.ParseIntBTie
set_option linter.unusedVariables false
set_option linter.unusedSimpArgs false
section
namespace Go.Proofs.YtfjifhkgifefeaaGreatDoor.PA
open Go.Proofs.YtfjifhkgifefeaaGreatDoor.Giv Go.RowKit Go.Proofs.YtfjifhkgifefeaaGreatDoorW.PrintWords Go.Proofs.YtfjifhkgifefeaaGreatDoorW.PrintLast Go.Proofs.YtfjifhkgifefeaaGreatDoorW.PrintMore
attribute [local go_sem] max2_int min2_int max_two min_two max_three min_three max_four min_four   -- for this text's walks alone
set_option linter.unusedVariables false
set_option linter.unusedSimpArgs false

/-! ### daytime_Stamp: function 39 -/
def daytime_Stamp.j0 : Nat → Int → Int → Bool → Int → Int → Int → Option (ByteArray × Option Int)
  | 0, _, _, _, _, _, _ => none
  | k + 1, x0, x2, x26, x258000, x258001, x258002 => if x26 = true then (some ((⟨#[]⟩ : ByteArray), some 1)) else ((civil_Of.f k x0).bind fun bt259 => (if bt259.2.2.2.isNone = true then ((civil_Text.f k bt259.1 bt259.2.1 bt259.2.2.1).bind fun bt265 => (if bt265.2.isNone = true then (if bt265.1.size + 1 ≤ 9223372036854775807 then ((daytime_digits.f x258000 2).bind fun t268 => (if (bt265.1 ++ (⟨#[84]⟩ : ByteArray)).size + t268.size ≤ 9223372036854775807 then (if ((bt265.1 ++ (⟨#[84]⟩ : ByteArray)) ++ t268).size + 1 ≤ 9223372036854775807 then ((daytime_digits.f x258001 2).bind fun t269 => (if (((bt265.1 ++ (⟨#[84]⟩ : ByteArray)) ++ t268) ++ (⟨#[58]⟩ : ByteArray)).size + t269.size ≤ 9223372036854775807 then (if ((((bt265.1 ++ (⟨#[84]⟩ : ByteArray)) ++ t268) ++ (⟨#[58]⟩ : ByteArray)) ++ t269).size + 1 ≤ 9223372036854775807 then ((daytime_digits.f x258002 2).bind fun t270 => (if (((((bt265.1 ++ (⟨#[84]⟩ : ByteArray)) ++ t268) ++ (⟨#[58]⟩ : ByteArray)) ++ t269) ++ (⟨#[58]⟩ : ByteArray)).size + t270.size ≤ 9223372036854775807 then (if ((((((bt265.1 ++ (⟨#[84]⟩ : ByteArray)) ++ t268) ++ (⟨#[58]⟩ : ByteArray)) ++ t269) ++ (⟨#[58]⟩ : ByteArray)) ++ t270).size + 1 ≤ 9223372036854775807 then ((daytime_digits.f x2 9).bind fun t271 => (if (((((((bt265.1 ++ (⟨#[84]⟩ : ByteArray)) ++ t268) ++ (⟨#[58]⟩ : ByteArray)) ++ t269) ++ (⟨#[58]⟩ : ByteArray)) ++ t270) ++ (⟨#[46]⟩ : ByteArray)).size + t271.size ≤ 9223372036854775807 then (some ((((((((bt265.1 ++ (⟨#[84]⟩ : ByteArray)) ++ t268) ++ (⟨#[58]⟩ : ByteArray)) ++ t269) ++ (⟨#[58]⟩ : ByteArray)) ++ t270) ++ (⟨#[46]⟩ : ByteArray)) ++ t271, none)) else (none))) else (none)) else (none))) else (none)) else (none))) else (none)) else (none))) else (none)) else (some ((⟨#[]⟩ : ByteArray), some (bt265.2.getD 0))))) else (some ((⟨#[]⟩ : ByteArray), some (bt259.2.2.2.getD 0)))))
def daytime_Stamp.f (k : Nat) (a0 : Int) (a1 : Int) (a2 : Int) : Option (ByteArray × Option Int) := (daytime_Of.f k a1).bind fun bt253 => (if bt253.2.2.2.isNone = true then (if a2 < 0 then (daytime_Stamp.j0 k a0 a2 true bt253.1 bt253.2.1 bt253.2.2.1) else (daytime_Stamp.j0 k a0 a2 (decide (a2 ≥ 1000000000)) bt253.1 bt253.2.1 bt253.2.2.1)) else (daytime_Stamp.j0 k a0 a2 true bt253.1 bt253.2.1 bt253.2.2.1))
def daytime_Stamp.T10 : Bool × List (List Nat × List Nat) := (true, [([], []), ([0], [0]), ([], []), ([2], [2]), ([3], [3]), ([1, 4], [1, 4]), ([5], [5]), ([], []), ([7], [7]), ([8, 4], [8]), ([6, 9], [6, 9]), ([10], [10]), ([], []), ([12], [12]), ([13, 9], [13]), ([11, 14], [11, 14]), ([15], [15]), ([], []), ([17, 14], [17]), ([16, 18], [16, 18]), ([19, 18, 0, 1, 2, 3, 4, 5, 6, 7, 8, 9, 10, 11, 12, 13, 14, 15, 16, 17, 18, 19], [19]), ([20, 0, 1, 2, 3, 4, 5, 6, 7, 8, 9, 10, 11, 12, 13, 14, 15, 16, 17, 18, 19, 20], [])])
def daytime_Stamp.B10 : List Nat := [0, 1, 0, 4, 12, 31, 63, 0, 128, 412, 1023, 2047, 0, 4096, 13212, 32767, 65535, 0, 160668, 524287, 1048575, 2097151]
theorem daytime_Stamp.tab10 : rtab .any (opsOf Tryz.f39 10) = daytime_Stamp.T10 := by kernel_rfl
theorem daytime_Stamp.bits10 : waitsOk daytime_Stamp.T10.2 daytime_Stamp.B10 = true := by kernel_rfl
set_option maxHeartbeats 8000000 in
set_option maxRecDepth 100000 in
theorem daytime_Stamp.calls (k : Nat) (a0 : Int) (a1 : Int) (a2 : Int) (r1 : ByteArray) (r2 : Option Int) (w : World) (hl_ : Laid w) (h : daytime_Stamp.f k a0 a1 a2 = some (r1, r2)) :
    Calls Tryz.prog 39 #[.int .i64 a0, .int .i64 a1, .int .i64 a2] w fun e w' => e = .returned (.tuple #[.string r1, errW r2]) ∧ Below w.heap.size w w' := by
  have hu50 := Tryz.underlying50
  have hu26 := Tryz.underlying26
  have hu28 := Tryz.underlying28
  have hu157 := Tryz.underlying157
  have HL := Aside0.mk hl_
  clear hl_
  have HB := Aside0.mk (Below.refl w.heap.size w)
  have H := h
  clear h
  unfold daytime_Stamp.f at H
  replace H := Option.bind_eq_some_iff.mp H
  obtain ⟨⟨t253, t254, t255, t256⟩, A40, H⟩ := H
  try dsimp only at H
  have A4 := Aside0.mk A40
  clear A40
  have HC5 := Aside0.mk H
  clear H
  go_enter Tryz.func39, Tryz.ntmps39
  go_upto_region 2 with (first | ((with_reducible refine gate_callee (f := 33) rfl ?_); refine goesL_ (some 14) rfl rfl Tryz.func33 (by kernel_rfl) rfl #[.int .i64 a1] rfl (by (try simp only [List.map_toArray, List.map_cons, List.map_nil]); first | done | rfl | (simp only [List.length_drop, List.length_take]; rfl)) ?_; (with_reducible refine (daytime_Of.calls k a1 t253 t254 t255 t256 _ A4.out).mono ?_); rintro e w6 ⟨rfl, hb⟩; refine ⟨_, rfl, ?_⟩; have n0_ := Aside0.mk (below_step (by repeat (first | (with_reducible first | exact HB.out | apply below_alloc | apply pw_below_drewN | apply below_drew1) | exact HB.out)) hb); clear HB; have HB := n0_; clear n0_; (try clear hb); (try clear hb2); (try clear hk); (try clear hi); (try simp only [errW_none, errW_some])) | ((with_reducible refine gate_dst (N := 8) rfl ?_); refine box_event ?hg (N := 8) ?hd (cs := #[.int .i64 0, .int .i64 0, .int .i64 0]) (t := 50) ?hr ?_; (case hd => rfl); (case hg => rfl); (case hr => first | (go_simp; done) | (go_simp; rfl)); intro gb257 hg w7 hbox hb; have n0_ := Aside0.mk (below_step (by repeat (first | (with_reducible first | exact HB.out | apply below_alloc | apply pw_below_drewN | apply below_drew1) | exact HB.out)) hb); have n1_ := Aside0.mk (hbox); have n2_ := Aside0.mk ((by rw [hg]; exact (below_size (by repeat (first | (with_reducible first | exact HB.out | apply below_alloc | apply pw_below_drewN | apply below_drew1) | exact HB.out))) : w.heap.size ≤ gb257)); have n3_ := Aside0.mk ((by rw [hg]; exact (below_size (by repeat (first | (with_reducible first | exact HB.out | apply below_alloc | apply pw_below_drewN | apply below_drew1) | exact HB.out))) : w.heap.size ≤ gb257)); clear HB; have HB := n0_; have BK257 := n1_; have GW257 := n2_; have GE257 := n3_; clear n0_ n1_ n2_ n3_; clear hb hbox hg; have hcz8_0 : w7.cell? ⟨gb257, 0, none⟩ = some (.int .i64 0) := (blk_cell BK257.out 0).trans rfl; have hcz8_1 : w7.cell? ⟨gb257, 1, none⟩ = some (.int .i64 0) := (blk_cell BK257.out 1).trans rfl; have hcz8_2 : w7.cell? ⟨gb257, 2, none⟩ = some (.int .i64 0) := (blk_cell BK257.out 2).trans rfl; have hfz8_0 := blk_frozen BK257.out 0; have hfz8_1 := blk_frozen BK257.out 1; have hfz8_2 := blk_frozen BK257.out 2))
  (try simp only [Act.put, List.setIfInBounds_toArray, List.set_cons_zero, List.set_cons_succ])
  go_cut [26] (fun v26 wc => ∃ (kq : Nat) (x26_4 : Bool), v26 = .bool x26_4 ∧ Aside0 (daytime_Stamp.j0 kq a0 a2 x26_4 t253 t254 t255 = some (r1, r2)) ∧ Aside0 (kq ≤ k) ∧ Aside0 (wc.heap[gb257]? = some (.cells #[.int .i64 t253, .int .i64 t254, .int .i64 t255] 50 (0, 0))) ∧ Aside0 (Below w.heap.size w wc))
  case first =>
    have H := HC5.out
    clear HC5
    rcases t256 with _ | q258
    · rw [if_pos (show (none : Option Int).isNone = true by rfl)] at H
      try dsimp only [Option.getD_some] at H
      try simp only [errW_none, errW_some]
      by_cases c9 : a2 < 0
      · rw [if_pos c9] at H
        have c9b0 : decide (a2 < 0) = true := decide_eq_true c9
        clear c9
        (first | rw [c9b0] | (simp only [i64_w, i32_w]; rw [c9b0]) | skip)
        have H' := Aside0.mk H
        clear H
        go_wp2
        go_meet
        case rel => exact ⟨_, (true), (by first | rfl | (simp; done) | (simp [*]; done)), H', ⟨by first | omega | exact Nat.le_refl _⟩, ⟨by (with_reducible repeat (first | refine blk_drewN ?_ _ | refine blk_drew ?_ | refine blk_alloc ?_ _)); refine blk_put (cs := #[.int .i64 t253, .int .i64 t254, .int .i64 0]) ?_ 2 _ rfl; (with_reducible repeat (first | refine blk_drewN ?_ _ | refine blk_drew ?_ | refine blk_alloc ?_ _)); refine blk_put (cs := #[.int .i64 t253, .int .i64 0, .int .i64 0]) ?_ 1 _ rfl; (with_reducible repeat (first | refine blk_drewN ?_ _ | refine blk_drew ?_ | refine blk_alloc ?_ _)); refine blk_put (cs := #[.int .i64 0, .int .i64 0, .int .i64 0]) ?_ 0 _ rfl; (with_reducible repeat (first | refine blk_drewN ?_ _ | refine blk_drew ?_ | refine blk_alloc ?_ _)); exact BK257.out⟩, ⟨by repeat (first | (with_reducible first | exact HB.out | apply below_alloc | apply pw_below_drewN | apply below_drew1 | refine below_set ?_ GE257.out) | exact HB.out)⟩⟩
      · rw [if_neg c9] at H
        have c9b0 : decide (a2 < 0) = false := decide_eq_false c9
        clear c9
        (first | rw [c9b0] | (simp only [i64_w, i32_w]; rw [c9b0]) | skip)
        have H' := Aside0.mk H
        clear H
        go_wp2
        go_meet
        case rel => exact ⟨_, (decide (a2 ≥ 1000000000)), (by first | rfl | (simp; done) | (simp [*]; done)), H', ⟨by first | omega | exact Nat.le_refl _⟩, ⟨by (with_reducible repeat (first | refine blk_drewN ?_ _ | refine blk_drew ?_ | refine blk_alloc ?_ _)); refine blk_put (cs := #[.int .i64 t253, .int .i64 t254, .int .i64 0]) ?_ 2 _ rfl; (with_reducible repeat (first | refine blk_drewN ?_ _ | refine blk_drew ?_ | refine blk_alloc ?_ _)); refine blk_put (cs := #[.int .i64 t253, .int .i64 0, .int .i64 0]) ?_ 1 _ rfl; (with_reducible repeat (first | refine blk_drewN ?_ _ | refine blk_drew ?_ | refine blk_alloc ?_ _)); refine blk_put (cs := #[.int .i64 0, .int .i64 0, .int .i64 0]) ?_ 0 _ rfl; (with_reducible repeat (first | refine blk_drewN ?_ _ | refine blk_drew ?_ | refine blk_alloc ?_ _)); exact BK257.out⟩, ⟨by repeat (first | (with_reducible first | exact HB.out | apply below_alloc | apply pw_below_drewN | apply below_drew1 | refine below_set ?_ GE257.out) | exact HB.out)⟩⟩
    · rw [if_neg (show ¬ (some q258).isNone = true by simp)] at H
      try dsimp only [Option.getD_some] at H
      try simp only [errW_none, errW_some]
      have H' := Aside0.mk H
      clear H
      go_wp2
      go_meet
      case rel => exact ⟨_, (true), (by first | rfl | (simp; done) | (simp [*]; done)), H', ⟨by first | omega | exact Nat.le_refl _⟩, ⟨by (with_reducible repeat (first | refine blk_drewN ?_ _ | refine blk_drew ?_ | refine blk_alloc ?_ _)); refine blk_put (cs := #[.int .i64 t253, .int .i64 t254, .int .i64 0]) ?_ 2 _ rfl; (with_reducible repeat (first | refine blk_drewN ?_ _ | refine blk_drew ?_ | refine blk_alloc ?_ _)); refine blk_put (cs := #[.int .i64 t253, .int .i64 0, .int .i64 0]) ?_ 1 _ rfl; (with_reducible repeat (first | refine blk_drewN ?_ _ | refine blk_drew ?_ | refine blk_alloc ?_ _)); refine blk_put (cs := #[.int .i64 0, .int .i64 0, .int .i64 0]) ?_ 0 _ rfl; (with_reducible repeat (first | refine blk_drewN ?_ _ | refine blk_drew ?_ | refine blk_alloc ?_ _)); exact BK257.out⟩, ⟨by repeat (first | (with_reducible first | exact HB.out | apply below_alloc | apply pw_below_drewN | apply below_drew1 | refine below_set ?_ GE257.out) | exact HB.out)⟩⟩
  case rest =>
    clear HC5
    try clear p2
    try clear q2
    try clear c3
    try clear c9
    try clear c9b0
    try clear hcz8_0
    try clear hcz8_1
    try clear hcz8_2
    try clear hfz8_0
    try clear hfz8_1
    try clear hfz8_2
    try clear q258
    obtain ⟨kq, x26_4, rfl, HA, HJ4, BK257, HB⟩ := hcut
    cases kq with
    | zero => exact absurd HA.out (by simp [daytime_Stamp.j0])
    | succ kj4 =>
      have H := HA.out
      clear HA
      simp only [daytime_Stamp.j0] at H
      by_cases c10 : x26_4 = true
      · subst c10
        have H1 : (some ((⟨#[]⟩ : ByteArray), some 1)) = some (r1, r2) := by rw [if_pos rfl] at H; exact H
        clear H
        have H := H1
        clear H1
        simp only [Option.some.injEq, Prod.mk.injEq] at H
        obtain ⟨rfl, rfl⟩ := H
        go_wp2
        go_ret2
        exact ⟨by first | rfl | (simp [errW_none, errW_some] <;> rfl) | (simp [*, errW_none, errW_some] <;> rfl), by repeat (first | (with_reducible first | exact HB.out | apply below_alloc | apply pw_below_drewN | apply below_drew1 | refine below_set ?_ GE257.out) | exact HB.out)⟩
      · replace c10 := Bool.eq_false_iff.mpr c10
        subst c10
        have H1 : ((civil_Of.f kj4 a0).bind fun bt259 => (if bt259.2.2.2.isNone = true then ((civil_Text.f kj4 bt259.1 bt259.2.1 bt259.2.2.1).bind fun bt265 => (if bt265.2.isNone = true then (if bt265.1.size + 1 ≤ 9223372036854775807 then ((daytime_digits.f t253 2).bind fun t268 => (if (bt265.1 ++ (⟨#[84]⟩ : ByteArray)).size + t268.size ≤ 9223372036854775807 then (if ((bt265.1 ++ (⟨#[84]⟩ : ByteArray)) ++ t268).size + 1 ≤ 9223372036854775807 then ((daytime_digits.f t254 2).bind fun t269 => (if (((bt265.1 ++ (⟨#[84]⟩ : ByteArray)) ++ t268) ++ (⟨#[58]⟩ : ByteArray)).size + t269.size ≤ 9223372036854775807 then (if ((((bt265.1 ++ (⟨#[84]⟩ : ByteArray)) ++ t268) ++ (⟨#[58]⟩ : ByteArray)) ++ t269).size + 1 ≤ 9223372036854775807 then ((daytime_digits.f t255 2).bind fun t270 => (if (((((bt265.1 ++ (⟨#[84]⟩ : ByteArray)) ++ t268) ++ (⟨#[58]⟩ : ByteArray)) ++ t269) ++ (⟨#[58]⟩ : ByteArray)).size + t270.size ≤ 9223372036854775807 then (if ((((((bt265.1 ++ (⟨#[84]⟩ : ByteArray)) ++ t268) ++ (⟨#[58]⟩ : ByteArray)) ++ t269) ++ (⟨#[58]⟩ : ByteArray)) ++ t270).size + 1 ≤ 9223372036854775807 then ((daytime_digits.f a2 9).bind fun t271 => (if (((((((bt265.1 ++ (⟨#[84]⟩ : ByteArray)) ++ t268) ++ (⟨#[58]⟩ : ByteArray)) ++ t269) ++ (⟨#[58]⟩ : ByteArray)) ++ t270) ++ (⟨#[46]⟩ : ByteArray)).size + t271.size ≤ 9223372036854775807 then (some ((((((((bt265.1 ++ (⟨#[84]⟩ : ByteArray)) ++ t268) ++ (⟨#[58]⟩ : ByteArray)) ++ t269) ++ (⟨#[58]⟩ : ByteArray)) ++ t270) ++ (⟨#[46]⟩ : ByteArray)) ++ t271, none)) else (none))) else (none)) else (none))) else (none)) else (none))) else (none)) else (none))) else (none)) else (some ((⟨#[]⟩ : ByteArray), some (bt265.2.getD 0))))) else (some ((⟨#[]⟩ : ByteArray), some (bt259.2.2.2.getD 0))))) = some (r1, r2) := by rw [if_neg (show ¬ (false = true) by decide)] at H; exact H
        clear H
        have H := H1
        clear H1
        replace H := Option.bind_eq_some_iff.mp H
        obtain ⟨⟨t259, t260, t261, t262⟩, A110, H⟩ := H
        try dsimp only at H
        have A11 := Aside0.mk A110
        clear A110
        rcases t262 with _ | q264
        · rw [if_pos (show (none : Option Int).isNone = true by rfl)] at H
          try dsimp only [Option.getD_some] at H
          try simp only [errW_none, errW_some]
          replace H := Option.bind_eq_some_iff.mp H
          obtain ⟨⟨t265, t266⟩, A120, H⟩ := H
          try dsimp only at H
          have A12 := Aside0.mk A120
          clear A120
          rcases t266 with _ | q267
          · rw [if_pos (show (none : Option Int).isNone = true by rfl)] at H
            try dsimp only [Option.getD_some] at H
            try simp only [errW_none, errW_some]
            by_cases c13 : t265.size + 1 ≤ 9223372036854775807
            · rw [if_pos c13] at H
              have c13b0 := eq_true c13
              have c13b1 : decide (t265.size + 1 ≤ 9223372036854775807) = true := decide_eq_true c13
              try have c13b2 : (9223372036854775807 < t265.size + 1) = False := eq_false (Nat.not_lt.2 c13)
              replace H := Option.bind_eq_some_iff.mp H
              obtain ⟨t268, A140, H⟩ := H
              try dsimp only at H
              have A14 := Aside0.mk A140
              clear A140
              by_cases c15 : (t265 ++ (⟨#[84]⟩ : ByteArray)).size + t268.size ≤ 9223372036854775807
              · rw [if_pos c15] at H
                have c15b0 := eq_true c15
                have c15b1 : decide ((t265 ++ (⟨#[84]⟩ : ByteArray)).size + t268.size ≤ 9223372036854775807) = true := decide_eq_true c15
                try have c15b2 : (9223372036854775807 < (t265 ++ (⟨#[84]⟩ : ByteArray)).size + t268.size) = False := eq_false (Nat.not_lt.2 c15)
                try have c15b3 : (9223372036854775807 < t265.size + 1 + t268.size) = False := eq_false (by have q_ := c15; simp only [ByteArray.size_append] at q_; exact Nat.not_lt.2 q_)
                by_cases c16 : ((t265 ++ (⟨#[84]⟩ : ByteArray)) ++ t268).size + 1 ≤ 9223372036854775807
                · rw [if_pos c16] at H
                  have c16b0 := eq_true c16
                  have c16b1 : decide (((t265 ++ (⟨#[84]⟩ : ByteArray)) ++ t268).size + 1 ≤ 9223372036854775807) = true := decide_eq_true c16
                  try have c16b2 : (9223372036854775807 < ((t265 ++ (⟨#[84]⟩ : ByteArray)) ++ t268).size + 1) = False := eq_false (Nat.not_lt.2 c16)
                  try have c16b3 : (9223372036854775807 < t265.size + 1 + t268.size + 1) = False := eq_false (by have q_ := c16; simp only [ByteArray.size_append] at q_; exact Nat.not_lt.2 q_)
                  replace H := Option.bind_eq_some_iff.mp H
                  obtain ⟨t269, A170, H⟩ := H
                  try dsimp only at H
                  have A17 := Aside0.mk A170
                  clear A170
                  by_cases c18 : (((t265 ++ (⟨#[84]⟩ : ByteArray)) ++ t268) ++ (⟨#[58]⟩ : ByteArray)).size + t269.size ≤ 9223372036854775807
                  · rw [if_pos c18] at H
                    have c18b0 := eq_true c18
                    have c18b1 : decide ((((t265 ++ (⟨#[84]⟩ : ByteArray)) ++ t268) ++ (⟨#[58]⟩ : ByteArray)).size + t269.size ≤ 9223372036854775807) = true := decide_eq_true c18
                    try have c18b2 : (9223372036854775807 < (((t265 ++ (⟨#[84]⟩ : ByteArray)) ++ t268) ++ (⟨#[58]⟩ : ByteArray)).size + t269.size) = False := eq_false (Nat.not_lt.2 c18)
                    try have c18b3 : (9223372036854775807 < t265.size + 1 + t268.size + 1 + t269.size) = False := eq_false (by have q_ := c18; simp only [ByteArray.size_append] at q_; exact Nat.not_lt.2 q_)
                    by_cases c19 : ((((t265 ++ (⟨#[84]⟩ : ByteArray)) ++ t268) ++ (⟨#[58]⟩ : ByteArray)) ++ t269).size + 1 ≤ 9223372036854775807
                    · rw [if_pos c19] at H
                      have c19b0 := eq_true c19
                      have c19b1 : decide (((((t265 ++ (⟨#[84]⟩ : ByteArray)) ++ t268) ++ (⟨#[58]⟩ : ByteArray)) ++ t269).size + 1 ≤ 9223372036854775807) = true := decide_eq_true c19
                      try have c19b2 : (9223372036854775807 < ((((t265 ++ (⟨#[84]⟩ : ByteArray)) ++ t268) ++ (⟨#[58]⟩ : ByteArray)) ++ t269).size + 1) = False := eq_false (Nat.not_lt.2 c19)
                      try have c19b3 : (9223372036854775807 < t265.size + 1 + t268.size + 1 + t269.size + 1) = False := eq_false (by have q_ := c19; simp only [ByteArray.size_append] at q_; exact Nat.not_lt.2 q_)
                      replace H := Option.bind_eq_some_iff.mp H
                      obtain ⟨t270, A200, H⟩ := H
                      try dsimp only at H
                      have A20 := Aside0.mk A200
                      clear A200
                      by_cases c21 : (((((t265 ++ (⟨#[84]⟩ : ByteArray)) ++ t268) ++ (⟨#[58]⟩ : ByteArray)) ++ t269) ++ (⟨#[58]⟩ : ByteArray)).size + t270.size ≤ 9223372036854775807
                      · rw [if_pos c21] at H
                        have c21b0 := eq_true c21
                        have c21b1 : decide ((((((t265 ++ (⟨#[84]⟩ : ByteArray)) ++ t268) ++ (⟨#[58]⟩ : ByteArray)) ++ t269) ++ (⟨#[58]⟩ : ByteArray)).size + t270.size ≤ 9223372036854775807) = true := decide_eq_true c21
                        try have c21b2 : (9223372036854775807 < (((((t265 ++ (⟨#[84]⟩ : ByteArray)) ++ t268) ++ (⟨#[58]⟩ : ByteArray)) ++ t269) ++ (⟨#[58]⟩ : ByteArray)).size + t270.size) = False := eq_false (Nat.not_lt.2 c21)
                        try have c21b3 : (9223372036854775807 < t265.size + 1 + t268.size + 1 + t269.size + 1 + t270.size) = False := eq_false (by have q_ := c21; simp only [ByteArray.size_append] at q_; exact Nat.not_lt.2 q_)
                        by_cases c22 : ((((((t265 ++ (⟨#[84]⟩ : ByteArray)) ++ t268) ++ (⟨#[58]⟩ : ByteArray)) ++ t269) ++ (⟨#[58]⟩ : ByteArray)) ++ t270).size + 1 ≤ 9223372036854775807
                        · rw [if_pos c22] at H
                          have c22b0 := eq_true c22
                          have c22b1 : decide (((((((t265 ++ (⟨#[84]⟩ : ByteArray)) ++ t268) ++ (⟨#[58]⟩ : ByteArray)) ++ t269) ++ (⟨#[58]⟩ : ByteArray)) ++ t270).size + 1 ≤ 9223372036854775807) = true := decide_eq_true c22
                          try have c22b2 : (9223372036854775807 < ((((((t265 ++ (⟨#[84]⟩ : ByteArray)) ++ t268) ++ (⟨#[58]⟩ : ByteArray)) ++ t269) ++ (⟨#[58]⟩ : ByteArray)) ++ t270).size + 1) = False := eq_false (Nat.not_lt.2 c22)
                          try have c22b3 : (9223372036854775807 < t265.size + 1 + t268.size + 1 + t269.size + 1 + t270.size + 1) = False := eq_false (by have q_ := c22; simp only [ByteArray.size_append] at q_; exact Nat.not_lt.2 q_)
                          replace H := Option.bind_eq_some_iff.mp H
                          obtain ⟨t271, A230, H⟩ := H
                          try dsimp only at H
                          have A23 := Aside0.mk A230
                          clear A230
                          by_cases c24 : (((((((t265 ++ (⟨#[84]⟩ : ByteArray)) ++ t268) ++ (⟨#[58]⟩ : ByteArray)) ++ t269) ++ (⟨#[58]⟩ : ByteArray)) ++ t270) ++ (⟨#[46]⟩ : ByteArray)).size + t271.size ≤ 9223372036854775807
                          · rw [if_pos c24] at H
                            have c24b0 := eq_true c24
                            have c24b1 : decide ((((((((t265 ++ (⟨#[84]⟩ : ByteArray)) ++ t268) ++ (⟨#[58]⟩ : ByteArray)) ++ t269) ++ (⟨#[58]⟩ : ByteArray)) ++ t270) ++ (⟨#[46]⟩ : ByteArray)).size + t271.size ≤ 9223372036854775807) = true := decide_eq_true c24
                            try have c24b2 : (9223372036854775807 < (((((((t265 ++ (⟨#[84]⟩ : ByteArray)) ++ t268) ++ (⟨#[58]⟩ : ByteArray)) ++ t269) ++ (⟨#[58]⟩ : ByteArray)) ++ t270) ++ (⟨#[46]⟩ : ByteArray)).size + t271.size) = False := eq_false (Nat.not_lt.2 c24)
                            try have c24b3 : (9223372036854775807 < t265.size + 1 + t268.size + 1 + t269.size + 1 + t270.size + 1 + t271.size) = False := eq_false (by have q_ := c24; simp only [ByteArray.size_append] at q_; exact Nat.not_lt.2 q_)
                            simp only [Option.some.injEq, Prod.mk.injEq] at H
                            obtain ⟨rfl, rfl⟩ := H
                            try go_wp2_with (first | ((with_reducible refine gate_callee (f := 17) rfl ?_); refine goesL_ (some 30) rfl rfl Tryz.func17 (by kernel_rfl) rfl #[.int .i64 a0] rfl (by (try simp only [List.map_toArray, List.map_cons, List.map_nil]); first | done | rfl | (simp only [List.length_drop, List.length_take]; rfl)) ?_; (with_reducible refine (civil_Of.calls kj4 a0 t259 t260 t261 none _ A11.out).mono ?_); rintro e w25 ⟨rfl, hb⟩; refine ⟨_, rfl, ?_⟩; have n0_ := Aside0.mk (blk_below (g := gb257) (o := .cells #[.int .i64 t253, .int .i64 t254, .int .i64 t255] 50 (0, 0)) (by (with_reducible repeat (first | refine blk_drewN ?_ _ | refine blk_drew ?_ | refine blk_alloc ?_ _)); exact BK257.out) hb); have n1_ := Aside0.mk (below_step (by repeat (first | (with_reducible first | exact HB.out | apply below_alloc | apply pw_below_drewN | apply below_drew1 | refine below_set ?_ GE257.out) | exact HB.out)) hb); clear BK257; clear HB; have BK257 := n0_; have HB := n1_; clear n0_ n1_; (try clear hb); (try clear hb2); (try clear hk); (try clear hi); (try simp only [errW_none, errW_some])) | ((with_reducible refine gate_dst (N := 10) rfl ?_); refine box_event ?hg (N := 10) ?hd (cs := #[.int .i64 0, .int .i64 0, .int .i64 0]) (t := 26) ?hr ?_; (case hd => rfl); (case hg => rfl); (case hr => first | (go_simp; done) | (go_simp; rfl)); intro gb263 hg w26 hbox hb; have n0_ := Aside0.mk (blk_below (g := gb257) (o := .cells #[.int .i64 t253, .int .i64 t254, .int .i64 t255] 50 (0, 0)) (by (with_reducible repeat (first | refine blk_drewN ?_ _ | refine blk_drew ?_ | refine blk_alloc ?_ _)); exact BK257.out) hb); have n1_ := Aside0.mk (below_step (by repeat (first | (with_reducible first | exact HB.out | apply below_alloc | apply pw_below_drewN | apply below_drew1 | refine below_set ?_ GE257.out) | exact HB.out)) hb); have n2_ := Aside0.mk (hbox); have n3_ := Aside0.mk ((by rw [hg]; exact (below_size (by repeat (first | (with_reducible first | exact HB.out | apply below_alloc | apply pw_below_drewN | apply below_drew1 | refine below_set ?_ GE257.out) | exact HB.out))) : w.heap.size ≤ gb263)); have n4_ := Aside0.mk ((by rw [hg]; exact (below_size (by repeat (first | (with_reducible first | exact HB.out | apply below_alloc | apply pw_below_drewN | apply below_drew1 | refine below_set ?_ GE257.out) | exact HB.out))) : w.heap.size ≤ gb263)); have n5_ := Aside0.mk ((by rw [hg]; exact Nat.ne_of_lt (blk_lt (g := gb257) (o := .cells #[.int .i64 t253, .int .i64 t254, .int .i64 t255] 50 (0, 0)) (by (with_reducible repeat (first | refine blk_drewN ?_ _ | refine blk_drew ?_ | refine blk_alloc ?_ _)); exact BK257.out)) : gb257 ≠ gb263)); have n6_ := Aside0.mk ((by rw [hg]; exact Nat.ne_of_gt (blk_lt (g := gb257) (o := .cells #[.int .i64 t253, .int .i64 t254, .int .i64 t255] 50 (0, 0)) (by (with_reducible repeat (first | refine blk_drewN ?_ _ | refine blk_drew ?_ | refine blk_alloc ?_ _)); exact BK257.out)) : gb263 ≠ gb257)); clear BK257; clear HB; have BK257 := n0_; have HB := n1_; have BK263 := n2_; have GW263 := n3_; have GE263 := n4_; have NB257_263 := n5_; have NB263_257 := n6_; clear n0_ n1_ n2_ n3_ n4_ n5_ n6_; clear hb hbox hg; have hnb27 := NB263_257.out; have hnc27 := NB257_263.out; have hcz28_0 : w26.cell? ⟨gb263, 0, none⟩ = some (.int .i64 0) := (blk_cell BK263.out 0).trans rfl; have hcz28_1 : w26.cell? ⟨gb263, 1, none⟩ = some (.int .i64 0) := (blk_cell BK263.out 1).trans rfl; have hcz28_2 : w26.cell? ⟨gb263, 2, none⟩ = some (.int .i64 0) := (blk_cell BK263.out 2).trans rfl; have hfz28_0 := blk_frozen BK263.out 0; have hfz28_1 := blk_frozen BK263.out 1; have hfz28_2 := blk_frozen BK263.out 2) | ((with_reducible refine gate_callee (f := 26) rfl ?_); refine goesL_ (some 38) rfl rfl Tryz.func26 (by kernel_rfl) rfl #[.agg #[.int .i64 t259, .int .i64 t260, .int .i64 t261]] rfl (by (try simp only [List.map_toArray, List.map_cons, List.map_nil]); first | done | rfl | (simp only [List.length_drop, List.length_take]; rfl)) ?_; (with_reducible refine (civil_Text.calls kj4 t259 t260 t261 t265 none _ (by first | exact Laid.below HL.out (by repeat (first | (with_reducible first | exact HB.out | apply below_alloc | apply pw_below_drewN | apply below_drew1 | refine below_set ?_ (Aside0.out (by assumption))) | exact HB.out))) A12.out).mono ?_); rintro e w29 ⟨rfl, hb⟩; refine ⟨_, rfl, ?_⟩; have n0_ := Aside0.mk (blk_below (g := gb257) (o := .cells #[.int .i64 t253, .int .i64 t254, .int .i64 t255] 50 (0, 0)) (by (with_reducible repeat (first | refine blk_drewN ?_ _ | refine blk_drew ?_ | refine blk_alloc ?_ _)); refine blk_far ?_ NB257_263.out _; (with_reducible repeat (first | refine blk_drewN ?_ _ | refine blk_drew ?_ | refine blk_alloc ?_ _)); refine blk_far ?_ NB257_263.out _; (with_reducible repeat (first | refine blk_drewN ?_ _ | refine blk_drew ?_ | refine blk_alloc ?_ _)); refine blk_far ?_ NB257_263.out _; (with_reducible repeat (first | refine blk_drewN ?_ _ | refine blk_drew ?_ | refine blk_alloc ?_ _)); exact BK257.out) hb); have n1_ := Aside0.mk (blk_below (g := gb263) (o := .cells #[.int .i64 t259, .int .i64 t260, .int .i64 t261] 26 (0, 0)) (by (with_reducible repeat (first | refine blk_drewN ?_ _ | refine blk_drew ?_ | refine blk_alloc ?_ _)); refine blk_put (cs := #[.int .i64 t259, .int .i64 t260, .int .i64 0]) ?_ 2 _ rfl; (with_reducible repeat (first | refine blk_drewN ?_ _ | refine blk_drew ?_ | refine blk_alloc ?_ _)); refine blk_put (cs := #[.int .i64 t259, .int .i64 0, .int .i64 0]) ?_ 1 _ rfl; (with_reducible repeat (first | refine blk_drewN ?_ _ | refine blk_drew ?_ | refine blk_alloc ?_ _)); refine blk_put (cs := #[.int .i64 0, .int .i64 0, .int .i64 0]) ?_ 0 _ rfl; (with_reducible repeat (first | refine blk_drewN ?_ _ | refine blk_drew ?_ | refine blk_alloc ?_ _)); exact BK263.out) hb); have n2_ := Aside0.mk (below_step (by repeat (first | (with_reducible first | exact HB.out | apply below_alloc | apply pw_below_drewN | apply below_drew1 | refine below_set ?_ GE257.out | refine below_set ?_ GE263.out) | exact HB.out)) hb); clear BK257; clear BK263; clear HB; have BK257 := n0_; have BK263 := n1_; have HB := n2_; clear n0_ n1_ n2_; (try clear hb); (try clear hb2); (try clear hk); (try clear hi); (try simp only [errW_none, errW_some])))
                            have n0_ := Aside0.mk (blk_drew BK257.out)
                            have n1_ := Aside0.mk (blk_drew BK263.out)
                            have n2_ := Aside0.mk (below_drew1 HB.out)
                            clear BK257
                            clear BK263
                            clear HB
                            have BK257 := n0_
                            have BK263 := n1_
                            have HB := n2_
                            clear n0_ n1_ n2_
                            refine start_ (n := 22) (S := fun w' => w'.cell? ⟨gb257, 0, none⟩ = some (.int .i64 t253) ∧ w'.cell? ⟨gb257, 1, none⟩ = some (.int .i64 t254) ∧ w'.cell? ⟨gb257, 2, none⟩ = some (.int .i64 t255)) (ds := []) #[false, false, false, false, false, false, false, false, false, false, false, false, false, false, false, false, false, false, false, false, false, false] (by kernel_rfl) rfl rfl ⟨(blk_cell BK257.out 0).trans rfl, (blk_cell BK257.out 1).trans rfl, (blk_cell BK257.out 2).trans rfl⟩ (fun hHeld => ?_); refine with_tabW daytime_Stamp.tab10 daytime_Stamp.bits10 (fun HT_ HW_ => ?_)
                            generalize w29.drew = w30 at BK257 BK263 HB hHeld ⊢
                            refine pure_ (i := 0) (N := some 44) (v := ?_) (a' := ?_) #[true, false, false, false, false, false, false, false, false, false, false, false, false, false, false, false, false, false, false, false, false, false] rfl rfl (any_of HT_.out (by kernel_rfl)) (fun _ _ _ h => h) (Or.inl ⟨by rfl, ?_⟩) ?_ ?_
                            rotate_left
                            · intro w'
                              go_simp
                              with_reducible rfl
                            rotate_left
                            · simp only [Act.put, List.setIfInBounds_toArray, List.set_cons_zero, List.set_cons_succ, i64_w, i32_w]
                              rfl
                            refine pure_ (i := 1) (N := some 45) (v := ?_) (a' := ?_) #[true, true, false, false, false, false, false, false, false, false, false, false, false, false, false, false, false, false, false, false, false, false] rfl rfl (any_of HT_.out (by kernel_rfl)) (fun _ _ _ h => h) (Or.inl ⟨by rfl, ?_⟩) ?_ ?_
                            rotate_left
                            · intro w'
                              go_simp
                              with_reducible rfl
                            rotate_left
                            · simp only [Act.put, List.setIfInBounds_toArray, List.set_cons_zero, List.set_cons_succ, i64_w, i32_w]
                              rfl
                            refine pure_ (i := 2) (N := some 46) (v := ?_) (a' := ?_) #[true, true, true, false, false, false, false, false, false, false, false, false, false, false, false, false, false, false, false, false, false, false] rfl rfl (any_of HT_.out (by kernel_rfl)) (fun _ _ _ h => h) (Or.inl ⟨by rfl, ?_⟩) ?_ ?_
                            rotate_left
                            · intro w'
                              go_simp
                              with_reducible rfl
                            rotate_left
                            · simp only [Act.put, List.setIfInBounds_toArray, List.set_cons_zero, List.set_cons_succ, i64_w, i32_w]
                              rfl
                            refine pure_ (i := 7) (N := some 51) (v := ?_) (a' := ?_) #[true, true, true, false, false, false, false, true, false, false, false, false, false, false, false, false, false, false, false, false, false, false] rfl rfl (any_of HT_.out (by kernel_rfl)) (fun _ _ _ h => h) (Or.inl ⟨by rfl, ?_⟩) ?_ ?_
                            rotate_left
                            · intro w'
                              go_simp
                              with_reducible rfl
                            rotate_left
                            · simp only [Act.put, List.setIfInBounds_toArray, List.set_cons_zero, List.set_cons_succ, i64_w, i32_w]
                              rfl
                            refine pure_ (i := 12) (N := some 56) (v := ?_) (a' := ?_) #[true, true, true, false, false, false, false, true, false, false, false, false, true, false, false, false, false, false, false, false, false, false] rfl rfl (any_of HT_.out (by kernel_rfl)) (fun _ _ _ h => h) (Or.inl ⟨by rfl, ?_⟩) ?_ ?_
                            rotate_left
                            · intro w'
                              go_simp
                              with_reducible rfl
                            rotate_left
                            · simp only [Act.put, List.setIfInBounds_toArray, List.set_cons_zero, List.set_cons_succ, i64_w, i32_w]
                              rfl
                            refine pure_ (i := 17) (N := some 61) (v := ?_) (a' := ?_) #[true, true, true, false, false, false, false, true, false, false, false, false, true, false, false, false, false, true, false, false, false, false] rfl rfl (any_of HT_.out (by kernel_rfl)) (fun _ _ _ h => h) (Or.inl ⟨by rfl, ?_⟩) ?_ ?_
                            rotate_left
                            · intro w'
                              go_simp
                              with_reducible rfl
                            rotate_left
                            · simp only [Act.put, List.setIfInBounds_toArray, List.set_cons_zero, List.set_cons_succ, i64_w, i32_w]
                              rfl
                            refine take_ (i := 3) (N := some 47) (v := ?_) (a' := ?_) #[true, true, true, true, false, false, false, true, false, false, false, false, true, false, false, false, false, true, false, false, false, false] rfl rfl (take_ofW HT_.out HW_.out (by kernel_rfl)) (fun _ _ _ h => h) (Or.inl ⟨by rfl, ?_⟩) hHeld ?_ ?_
                            rotate_left
                            · rintro w' ⟨s0, s1, s2⟩
                              go_simp
                              with_reducible rfl
                            rotate_left
                            · simp only [Act.put, List.setIfInBounds_toArray, List.set_cons_zero, List.set_cons_succ, i64_w, i32_w]
                              rfl
                            refine take_ (i := 8) (N := some 52) (v := ?_) (a' := ?_) #[true, true, true, true, false, false, false, true, true, false, false, false, true, false, false, false, false, true, false, false, false, false] rfl rfl (take_ofW HT_.out HW_.out (by kernel_rfl)) (fun _ _ _ h => h) (Or.inl ⟨by rfl, ?_⟩) hHeld ?_ ?_
                            rotate_left
                            · rintro w' ⟨s0, s1, s2⟩
                              go_simp
                              with_reducible rfl
                            rotate_left
                            · simp only [Act.put, List.setIfInBounds_toArray, List.set_cons_zero, List.set_cons_succ, i64_w, i32_w]
                              rfl
                            refine take_ (i := 13) (N := some 57) (v := ?_) (a' := ?_) #[true, true, true, true, false, false, false, true, true, false, false, false, true, true, false, false, false, true, false, false, false, false] rfl rfl (take_ofW HT_.out HW_.out (by kernel_rfl)) (fun _ _ _ h => h) (Or.inl ⟨by rfl, ?_⟩) hHeld ?_ ?_
                            rotate_left
                            · rintro w' ⟨s0, s1, s2⟩
                              go_simp
                              with_reducible rfl
                            rotate_left
                            · simp only [Act.put, List.setIfInBounds_toArray, List.set_cons_zero, List.set_cons_succ, i64_w, i32_w]
                              rfl
                            refine one_ (i := 4) (N := some 48) #[true, true, true, true, true, false, false, true, true, false, false, false, true, true, false, false, false, true, false, false, false, false] rfl rfl (one_of HT_.out (by kernel_rfl)) (by decide) (fun K hK => ?_)
                            refine goes_ Tryz.func100 (by kernel_rfl) rfl #[.int .i64 t253, .int .i64 2] (by rfl) rfl rfl (by (try simp only [List.map_toArray, List.map_cons, List.map_nil]); first | done | rfl | (simp only [List.length_drop, List.length_take]; rfl)) ?_
                            with_reducible refine (daytime_digits.calls t253 2 t268 _ (by first | exact Laid.below HL.out (by repeat (first | (with_reducible first | exact HB.out | apply below_alloc | apply pw_below_drewN | apply below_drew1 | refine below_set ?_ (Aside0.out (by assumption))) | exact HB.out))) A14.out).mono ?_
                            rintro e w31 ⟨rfl, hb⟩
                            refine ⟨_, rfl, ?_⟩
                            have n0_ := Aside0.mk (blk_below (g := gb257) (o := .cells #[.int .i64 t253, .int .i64 t254, .int .i64 t255] 50 (0, 0)) (by (with_reducible repeat (first | refine blk_drewN ?_ _ | refine blk_drew ?_ | refine blk_alloc ?_ _)); exact BK257.out) hb)
                            have n1_ := Aside0.mk (blk_below (g := gb263) (o := .cells #[.int .i64 t259, .int .i64 t260, .int .i64 t261] 26 (0, 0)) (by (with_reducible repeat (first | refine blk_drewN ?_ _ | refine blk_drew ?_ | refine blk_alloc ?_ _)); exact BK263.out) hb)
                            have n2_ := Aside0.mk (below_step (by repeat (first | (with_reducible first | exact HB.out | apply below_alloc | apply pw_below_drewN | apply below_drew1 | refine below_set ?_ GE257.out | refine below_set ?_ GE263.out) | exact HB.out)) hb)
                            clear BK257
                            clear BK263
                            clear HB
                            have BK257 := n0_
                            have BK263 := n1_
                            have HB := n2_
                            clear n0_ n1_ n2_
                            (try clear hb)
                            (try clear hb2)
                            (try clear hk)
                            (try clear hi)
                            refine hK.out _ _ ⟨(blk_cell BK257.out 0).trans rfl, (blk_cell BK257.out 1).trans rfl, (blk_cell BK257.out 2).trans rfl⟩ (fun hHeld => ?_)
                            clear hK K
                            refine norm_ (a' := ?_) ?_ ?_
                            rotate_left
                            · show Act.put _ (some 48) _ = _
                              simp only [Act.put, List.setIfInBounds_toArray, List.set_cons_zero, List.set_cons_succ, i64_w, i32_w]
                              rfl
                            refine pure_ (i := 5) (N := some 49) (v := ?_) (a' := ?_) #[true, true, true, true, true, true, false, true, true, false, false, false, true, true, false, false, false, true, false, false, false, false] rfl rfl (any_of HT_.out (by kernel_rfl)) (fun _ _ _ h => h) (Or.inl ⟨by rfl, ?_⟩) ?_ ?_
                            rotate_left
                            · intro w'
                              go_simp
                              with_reducible rfl
                            rotate_left
                            · simp only [Act.put, List.setIfInBounds_toArray, List.set_cons_zero, List.set_cons_succ, i64_w, i32_w]
                              rfl
                            refine pure_ (i := 6) (N := some 50) (v := ?_) (a' := ?_) #[true, true, true, true, true, true, true, true, true, false, false, false, true, true, false, false, false, true, false, false, false, false] rfl rfl (any_of HT_.out (by kernel_rfl)) (fun _ _ _ h => h) (Or.inl ⟨by rfl, ?_⟩) ?_ ?_
                            rotate_left
                            · intro w'
                              go_simp
                              with_reducible rfl
                            rotate_left
                            · simp only [Act.put, List.setIfInBounds_toArray, List.set_cons_zero, List.set_cons_succ, i64_w, i32_w]
                              rfl
                            refine one_ (i := 9) (N := some 53) #[true, true, true, true, true, true, true, true, true, true, false, false, true, true, false, false, false, true, false, false, false, false] rfl rfl (one_of HT_.out (by kernel_rfl)) (by decide) (fun K hK => ?_)
                            refine goes_ Tryz.func100 (by kernel_rfl) rfl #[.int .i64 t254, .int .i64 2] (by rfl) rfl rfl (by (try simp only [List.map_toArray, List.map_cons, List.map_nil]); first | done | rfl | (simp only [List.length_drop, List.length_take]; rfl)) ?_
                            with_reducible refine (daytime_digits.calls t254 2 t269 _ (by first | exact Laid.below HL.out (by repeat (first | (with_reducible first | exact HB.out | apply below_alloc | apply pw_below_drewN | apply below_drew1 | refine below_set ?_ (Aside0.out (by assumption))) | exact HB.out))) A17.out).mono ?_
                            rintro e w32 ⟨rfl, hb⟩
                            refine ⟨_, rfl, ?_⟩
                            have n0_ := Aside0.mk (blk_below (g := gb257) (o := .cells #[.int .i64 t253, .int .i64 t254, .int .i64 t255] 50 (0, 0)) (by (with_reducible repeat (first | refine blk_drewN ?_ _ | refine blk_drew ?_ | refine blk_alloc ?_ _)); exact BK257.out) hb)
                            have n1_ := Aside0.mk (blk_below (g := gb263) (o := .cells #[.int .i64 t259, .int .i64 t260, .int .i64 t261] 26 (0, 0)) (by (with_reducible repeat (first | refine blk_drewN ?_ _ | refine blk_drew ?_ | refine blk_alloc ?_ _)); exact BK263.out) hb)
                            have n2_ := Aside0.mk (below_step (by repeat (first | (with_reducible first | exact HB.out | apply below_alloc | apply pw_below_drewN | apply below_drew1 | refine below_set ?_ GE257.out | refine below_set ?_ GE263.out) | exact HB.out)) hb)
                            clear BK257
                            clear BK263
                            clear HB
                            have BK257 := n0_
                            have BK263 := n1_
                            have HB := n2_
                            clear n0_ n1_ n2_
                            (try clear hb)
                            (try clear hb2)
                            (try clear hk)
                            (try clear hi)
                            refine hK.out _ _ ⟨(blk_cell BK257.out 0).trans rfl, (blk_cell BK257.out 1).trans rfl, (blk_cell BK257.out 2).trans rfl⟩ (fun hHeld => ?_)
                            clear hK K
                            refine norm_ (a' := ?_) ?_ ?_
                            rotate_left
                            · show Act.put _ (some 53) _ = _
                              simp only [Act.put, List.setIfInBounds_toArray, List.set_cons_zero, List.set_cons_succ, i64_w, i32_w]
                              rfl
                            refine pure_ (i := 10) (N := some 54) (v := ?_) (a' := ?_) #[true, true, true, true, true, true, true, true, true, true, true, false, true, true, false, false, false, true, false, false, false, false] rfl rfl (any_of HT_.out (by kernel_rfl)) (fun _ _ _ h => h) (Or.inl ⟨by rfl, ?_⟩) ?_ ?_
                            rotate_left
                            · intro w'
                              go_simp
                              with_reducible rfl
                            rotate_left
                            · simp only [Act.put, List.setIfInBounds_toArray, List.set_cons_zero, List.set_cons_succ, i64_w, i32_w]
                              rfl
                            refine pure_ (i := 11) (N := some 55) (v := ?_) (a' := ?_) #[true, true, true, true, true, true, true, true, true, true, true, true, true, true, false, false, false, true, false, false, false, false] rfl rfl (any_of HT_.out (by kernel_rfl)) (fun _ _ _ h => h) (Or.inl ⟨by rfl, ?_⟩) ?_ ?_
                            rotate_left
                            · intro w'
                              go_simp
                              with_reducible rfl
                            rotate_left
                            · simp only [Act.put, List.setIfInBounds_toArray, List.set_cons_zero, List.set_cons_succ, i64_w, i32_w]
                              rfl
                            refine one_ (i := 14) (N := some 58) #[true, true, true, true, true, true, true, true, true, true, true, true, true, true, true, false, false, true, false, false, false, false] rfl rfl (one_of HT_.out (by kernel_rfl)) (by decide) (fun K hK => ?_)
                            refine goes_ Tryz.func100 (by kernel_rfl) rfl #[.int .i64 t255, .int .i64 2] (by rfl) rfl rfl (by (try simp only [List.map_toArray, List.map_cons, List.map_nil]); first | done | rfl | (simp only [List.length_drop, List.length_take]; rfl)) ?_
                            with_reducible refine (daytime_digits.calls t255 2 t270 _ (by first | exact Laid.below HL.out (by repeat (first | (with_reducible first | exact HB.out | apply below_alloc | apply pw_below_drewN | apply below_drew1 | refine below_set ?_ (Aside0.out (by assumption))) | exact HB.out))) A20.out).mono ?_
                            rintro e w33 ⟨rfl, hb⟩
                            refine ⟨_, rfl, ?_⟩
                            have n0_ := Aside0.mk (blk_below (g := gb257) (o := .cells #[.int .i64 t253, .int .i64 t254, .int .i64 t255] 50 (0, 0)) (by (with_reducible repeat (first | refine blk_drewN ?_ _ | refine blk_drew ?_ | refine blk_alloc ?_ _)); exact BK257.out) hb)
                            have n1_ := Aside0.mk (blk_below (g := gb263) (o := .cells #[.int .i64 t259, .int .i64 t260, .int .i64 t261] 26 (0, 0)) (by (with_reducible repeat (first | refine blk_drewN ?_ _ | refine blk_drew ?_ | refine blk_alloc ?_ _)); exact BK263.out) hb)
                            have n2_ := Aside0.mk (below_step (by repeat (first | (with_reducible first | exact HB.out | apply below_alloc | apply pw_below_drewN | apply below_drew1 | refine below_set ?_ GE257.out | refine below_set ?_ GE263.out) | exact HB.out)) hb)
                            clear BK257
                            clear BK263
                            clear HB
                            have BK257 := n0_
                            have BK263 := n1_
                            have HB := n2_
                            clear n0_ n1_ n2_
                            (try clear hb)
                            (try clear hb2)
                            (try clear hk)
                            (try clear hi)
                            refine hK.out _ _ ⟨(blk_cell BK257.out 0).trans rfl, (blk_cell BK257.out 1).trans rfl, (blk_cell BK257.out 2).trans rfl⟩ (fun hHeld => ?_)
                            clear hK K
                            refine norm_ (a' := ?_) ?_ ?_
                            rotate_left
                            · show Act.put _ (some 58) _ = _
                              simp only [Act.put, List.setIfInBounds_toArray, List.set_cons_zero, List.set_cons_succ, i64_w, i32_w]
                              rfl
                            refine pure_ (i := 15) (N := some 59) (v := ?_) (a' := ?_) #[true, true, true, true, true, true, true, true, true, true, true, true, true, true, true, true, false, true, false, false, false, false] rfl rfl (any_of HT_.out (by kernel_rfl)) (fun _ _ _ h => h) (Or.inl ⟨by rfl, ?_⟩) ?_ ?_
                            rotate_left
                            · intro w'
                              go_simp
                              with_reducible rfl
                            rotate_left
                            · simp only [Act.put, List.setIfInBounds_toArray, List.set_cons_zero, List.set_cons_succ, i64_w, i32_w]
                              rfl
                            refine pure_ (i := 16) (N := some 60) (v := ?_) (a' := ?_) #[true, true, true, true, true, true, true, true, true, true, true, true, true, true, true, true, true, true, false, false, false, false] rfl rfl (any_of HT_.out (by kernel_rfl)) (fun _ _ _ h => h) (Or.inl ⟨by rfl, ?_⟩) ?_ ?_
                            rotate_left
                            · intro w'
                              go_simp
                              with_reducible rfl
                            rotate_left
                            · simp only [Act.put, List.setIfInBounds_toArray, List.set_cons_zero, List.set_cons_succ, i64_w, i32_w]
                              rfl
                            refine one_ (i := 18) (N := some 62) #[true, true, true, true, true, true, true, true, true, true, true, true, true, true, true, true, true, true, true, false, false, false] rfl rfl (one_of HT_.out (by kernel_rfl)) (by decide) (fun K hK => ?_)
                            refine goes_ Tryz.func100 (by kernel_rfl) rfl #[.int .i64 a2, .int .i64 9] (by rfl) rfl rfl (by (try simp only [List.map_toArray, List.map_cons, List.map_nil]); first | done | rfl | (simp only [List.length_drop, List.length_take]; rfl)) ?_
                            with_reducible refine (daytime_digits.calls a2 9 t271 _ (by first | exact Laid.below HL.out (by repeat (first | (with_reducible first | exact HB.out | apply below_alloc | apply pw_below_drewN | apply below_drew1 | refine below_set ?_ (Aside0.out (by assumption))) | exact HB.out))) A23.out).mono ?_
                            rintro e w34 ⟨rfl, hb⟩
                            refine ⟨_, rfl, ?_⟩
                            have n0_ := Aside0.mk (blk_below (g := gb257) (o := .cells #[.int .i64 t253, .int .i64 t254, .int .i64 t255] 50 (0, 0)) (by (with_reducible repeat (first | refine blk_drewN ?_ _ | refine blk_drew ?_ | refine blk_alloc ?_ _)); exact BK257.out) hb)
                            have n1_ := Aside0.mk (blk_below (g := gb263) (o := .cells #[.int .i64 t259, .int .i64 t260, .int .i64 t261] 26 (0, 0)) (by (with_reducible repeat (first | refine blk_drewN ?_ _ | refine blk_drew ?_ | refine blk_alloc ?_ _)); exact BK263.out) hb)
                            have n2_ := Aside0.mk (below_step (by repeat (first | (with_reducible first | exact HB.out | apply below_alloc | apply pw_below_drewN | apply below_drew1 | refine below_set ?_ GE257.out | refine below_set ?_ GE263.out) | exact HB.out)) hb)
                            clear BK257
                            clear BK263
                            clear HB
                            have BK257 := n0_
                            have BK263 := n1_
                            have HB := n2_
                            clear n0_ n1_ n2_
                            (try clear hb)
                            (try clear hb2)
                            (try clear hk)
                            (try clear hi)
                            refine hK.out _ _ ⟨(blk_cell BK257.out 0).trans rfl, (blk_cell BK257.out 1).trans rfl, (blk_cell BK257.out 2).trans rfl⟩ (fun hHeld => ?_)
                            clear hK K
                            refine norm_ (a' := ?_) ?_ ?_
                            rotate_left
                            · show Act.put _ (some 62) _ = _
                              simp only [Act.put, List.setIfInBounds_toArray, List.set_cons_zero, List.set_cons_succ, i64_w, i32_w]
                              rfl
                            refine pure_ (i := 19) (N := some 63) (v := ?_) (a' := ?_) #[true, true, true, true, true, true, true, true, true, true, true, true, true, true, true, true, true, true, true, true, false, false] rfl rfl (any_of HT_.out (by kernel_rfl)) (fun _ _ _ h => h) (Or.inl ⟨by rfl, ?_⟩) ?_ ?_
                            rotate_left
                            · intro w'
                              go_simp
                              with_reducible rfl
                            rotate_left
                            · simp only [Act.put, List.setIfInBounds_toArray, List.set_cons_zero, List.set_cons_succ, i64_w, i32_w]
                              rfl
                            refine pure_ (i := 20) (N := some 6) (v := ?_) (a' := ?_) #[true, true, true, true, true, true, true, true, true, true, true, true, true, true, true, true, true, true, true, true, true, false] rfl rfl (any_of HT_.out (by kernel_rfl)) (fun _ _ _ h => h) (Or.inl ⟨by rfl, ?_⟩) ?_ ?_
                            rotate_left
                            · intro w'
                              go_simp
                              with_reducible rfl
                            rotate_left
                            · simp only [Act.put, List.setIfInBounds_toArray, List.set_cons_zero, List.set_cons_succ, i64_w, i32_w]
                              rfl
                            refine pure_ (i := 21) (N := some 7) (v := ?_) (a' := ?_) #[true, true, true, true, true, true, true, true, true, true, true, true, true, true, true, true, true, true, true, true, true, true] rfl rfl (any_of HT_.out (by kernel_rfl)) (fun _ _ _ h => h) (Or.inl ⟨by rfl, ?_⟩) ?_ ?_
                            rotate_left
                            · intro w'
                              go_simp
                              with_reducible rfl
                            rotate_left
                            · simp only [Act.put, List.setIfInBounds_toArray, List.set_cons_zero, List.set_cons_succ, i64_w, i32_w]
                              rfl
                            refine done_ (done_of HT_.out (by kernel_rfl)) ?_
                            try go_wp2
                            go_ret2
                            exact ⟨by first | rfl | (simp [errW_none, errW_some] <;> rfl) | (simp [*, errW_none, errW_some] <;> rfl), by repeat (first | (with_reducible first | exact HB.out | apply below_alloc | apply pw_below_drewN | apply below_drew1 | refine below_set ?_ GE257.out | refine below_set ?_ GE263.out) | exact HB.out)⟩
                          · rw [if_neg c24] at H
                            exact absurd H (by simp)
                        · rw [if_neg c22] at H
                          exact absurd H (by simp)
                      · rw [if_neg c21] at H
                        exact absurd H (by simp)
                    · rw [if_neg c19] at H
                      exact absurd H (by simp)
                  · rw [if_neg c18] at H
                    exact absurd H (by simp)
                · rw [if_neg c16] at H
                  exact absurd H (by simp)
              · rw [if_neg c15] at H
                exact absurd H (by simp)
            · rw [if_neg c13] at H
              exact absurd H (by simp)
          · rw [if_neg (show ¬ (some q267).isNone = true by simp)] at H
            try dsimp only [Option.getD_some] at H
            try simp only [errW_none, errW_some]
            simp only [Option.some.injEq, Prod.mk.injEq] at H
            obtain ⟨rfl, rfl⟩ := H
            go_wp2_with (first | ((with_reducible refine gate_callee (f := 17) rfl ?_); refine goesL_ (some 30) rfl rfl Tryz.func17 (by kernel_rfl) rfl #[.int .i64 a0] rfl (by (try simp only [List.map_toArray, List.map_cons, List.map_nil]); first | done | rfl | (simp only [List.length_drop, List.length_take]; rfl)) ?_; (with_reducible refine (civil_Of.calls kj4 a0 t259 t260 t261 none _ A11.out).mono ?_); rintro e w35 ⟨rfl, hb⟩; refine ⟨_, rfl, ?_⟩; have n0_ := Aside0.mk (blk_below (g := gb257) (o := .cells #[.int .i64 t253, .int .i64 t254, .int .i64 t255] 50 (0, 0)) (by (with_reducible repeat (first | refine blk_drewN ?_ _ | refine blk_drew ?_ | refine blk_alloc ?_ _)); exact BK257.out) hb); have n1_ := Aside0.mk (below_step (by repeat (first | (with_reducible first | exact HB.out | apply below_alloc | apply pw_below_drewN | apply below_drew1 | refine below_set ?_ GE257.out) | exact HB.out)) hb); clear BK257; clear HB; have BK257 := n0_; have HB := n1_; clear n0_ n1_; (try clear hb); (try clear hb2); (try clear hk); (try clear hi); (try simp only [errW_none, errW_some])) | ((with_reducible refine gate_dst (N := 10) rfl ?_); refine box_event ?hg (N := 10) ?hd (cs := #[.int .i64 0, .int .i64 0, .int .i64 0]) (t := 26) ?hr ?_; (case hd => rfl); (case hg => rfl); (case hr => first | (go_simp; done) | (go_simp; rfl)); intro gb263 hg w36 hbox hb; have n0_ := Aside0.mk (blk_below (g := gb257) (o := .cells #[.int .i64 t253, .int .i64 t254, .int .i64 t255] 50 (0, 0)) (by (with_reducible repeat (first | refine blk_drewN ?_ _ | refine blk_drew ?_ | refine blk_alloc ?_ _)); exact BK257.out) hb); have n1_ := Aside0.mk (below_step (by repeat (first | (with_reducible first | exact HB.out | apply below_alloc | apply pw_below_drewN | apply below_drew1 | refine below_set ?_ GE257.out) | exact HB.out)) hb); have n2_ := Aside0.mk (hbox); have n3_ := Aside0.mk ((by rw [hg]; exact (below_size (by repeat (first | (with_reducible first | exact HB.out | apply below_alloc | apply pw_below_drewN | apply below_drew1 | refine below_set ?_ GE257.out) | exact HB.out))) : w.heap.size ≤ gb263)); have n4_ := Aside0.mk ((by rw [hg]; exact (below_size (by repeat (first | (with_reducible first | exact HB.out | apply below_alloc | apply pw_below_drewN | apply below_drew1 | refine below_set ?_ GE257.out) | exact HB.out))) : w.heap.size ≤ gb263)); have n5_ := Aside0.mk ((by rw [hg]; exact Nat.ne_of_lt (blk_lt (g := gb257) (o := .cells #[.int .i64 t253, .int .i64 t254, .int .i64 t255] 50 (0, 0)) (by (with_reducible repeat (first | refine blk_drewN ?_ _ | refine blk_drew ?_ | refine blk_alloc ?_ _)); exact BK257.out)) : gb257 ≠ gb263)); have n6_ := Aside0.mk ((by rw [hg]; exact Nat.ne_of_gt (blk_lt (g := gb257) (o := .cells #[.int .i64 t253, .int .i64 t254, .int .i64 t255] 50 (0, 0)) (by (with_reducible repeat (first | refine blk_drewN ?_ _ | refine blk_drew ?_ | refine blk_alloc ?_ _)); exact BK257.out)) : gb263 ≠ gb257)); clear BK257; clear HB; have BK257 := n0_; have HB := n1_; have BK263 := n2_; have GW263 := n3_; have GE263 := n4_; have NB257_263 := n5_; have NB263_257 := n6_; clear n0_ n1_ n2_ n3_ n4_ n5_ n6_; clear hb hbox hg; have hnb37 := NB263_257.out; have hnc37 := NB257_263.out; have hcz38_0 : w36.cell? ⟨gb263, 0, none⟩ = some (.int .i64 0) := (blk_cell BK263.out 0).trans rfl; have hcz38_1 : w36.cell? ⟨gb263, 1, none⟩ = some (.int .i64 0) := (blk_cell BK263.out 1).trans rfl; have hcz38_2 : w36.cell? ⟨gb263, 2, none⟩ = some (.int .i64 0) := (blk_cell BK263.out 2).trans rfl; have hfz38_0 := blk_frozen BK263.out 0; have hfz38_1 := blk_frozen BK263.out 1; have hfz38_2 := blk_frozen BK263.out 2) | ((with_reducible refine gate_callee (f := 26) rfl ?_); refine goesL_ (some 38) rfl rfl Tryz.func26 (by kernel_rfl) rfl #[.agg #[.int .i64 t259, .int .i64 t260, .int .i64 t261]] rfl (by (try simp only [List.map_toArray, List.map_cons, List.map_nil]); first | done | rfl | (simp only [List.length_drop, List.length_take]; rfl)) ?_; (with_reducible refine (civil_Text.calls kj4 t259 t260 t261 t265 (some q267) _ (by first | exact Laid.below HL.out (by repeat (first | (with_reducible first | exact HB.out | apply below_alloc | apply pw_below_drewN | apply below_drew1 | refine below_set ?_ (Aside0.out (by assumption))) | exact HB.out))) A12.out).mono ?_); rintro e w39 ⟨rfl, hb⟩; refine ⟨_, rfl, ?_⟩; have n0_ := Aside0.mk (blk_below (g := gb257) (o := .cells #[.int .i64 t253, .int .i64 t254, .int .i64 t255] 50 (0, 0)) (by (with_reducible repeat (first | refine blk_drewN ?_ _ | refine blk_drew ?_ | refine blk_alloc ?_ _)); refine blk_far ?_ NB257_263.out _; (with_reducible repeat (first | refine blk_drewN ?_ _ | refine blk_drew ?_ | refine blk_alloc ?_ _)); refine blk_far ?_ NB257_263.out _; (with_reducible repeat (first | refine blk_drewN ?_ _ | refine blk_drew ?_ | refine blk_alloc ?_ _)); refine blk_far ?_ NB257_263.out _; (with_reducible repeat (first | refine blk_drewN ?_ _ | refine blk_drew ?_ | refine blk_alloc ?_ _)); exact BK257.out) hb); have n1_ := Aside0.mk (blk_below (g := gb263) (o := .cells #[.int .i64 t259, .int .i64 t260, .int .i64 t261] 26 (0, 0)) (by (with_reducible repeat (first | refine blk_drewN ?_ _ | refine blk_drew ?_ | refine blk_alloc ?_ _)); refine blk_put (cs := #[.int .i64 t259, .int .i64 t260, .int .i64 0]) ?_ 2 _ rfl; (with_reducible repeat (first | refine blk_drewN ?_ _ | refine blk_drew ?_ | refine blk_alloc ?_ _)); refine blk_put (cs := #[.int .i64 t259, .int .i64 0, .int .i64 0]) ?_ 1 _ rfl; (with_reducible repeat (first | refine blk_drewN ?_ _ | refine blk_drew ?_ | refine blk_alloc ?_ _)); refine blk_put (cs := #[.int .i64 0, .int .i64 0, .int .i64 0]) ?_ 0 _ rfl; (with_reducible repeat (first | refine blk_drewN ?_ _ | refine blk_drew ?_ | refine blk_alloc ?_ _)); exact BK263.out) hb); have n2_ := Aside0.mk (below_step (by repeat (first | (with_reducible first | exact HB.out | apply below_alloc | apply pw_below_drewN | apply below_drew1 | refine below_set ?_ GE257.out | refine below_set ?_ GE263.out) | exact HB.out)) hb); clear BK257; clear BK263; clear HB; have BK257 := n0_; have BK263 := n1_; have HB := n2_; clear n0_ n1_ n2_; (try clear hb); (try clear hb2); (try clear hk); (try clear hi); (try simp only [errW_none, errW_some])))
            go_ret2
            exact ⟨by first | rfl | (simp [errW_none, errW_some] <;> rfl) | (simp [*, errW_none, errW_some] <;> rfl), by repeat (first | (with_reducible first | exact HB.out | apply below_alloc | apply pw_below_drewN | apply below_drew1 | refine below_set ?_ GE257.out | refine below_set ?_ GE263.out) | exact HB.out)⟩
        · rw [if_neg (show ¬ (some q264).isNone = true by simp)] at H
          try dsimp only [Option.getD_some] at H
          try simp only [errW_none, errW_some]
          simp only [Option.some.injEq, Prod.mk.injEq] at H
          obtain ⟨rfl, rfl⟩ := H
          go_wp2_with (first | ((with_reducible refine gate_callee (f := 17) rfl ?_); refine goesL_ (some 30) rfl rfl Tryz.func17 (by kernel_rfl) rfl #[.int .i64 a0] rfl (by (try simp only [List.map_toArray, List.map_cons, List.map_nil]); first | done | rfl | (simp only [List.length_drop, List.length_take]; rfl)) ?_; (with_reducible refine (civil_Of.calls kj4 a0 t259 t260 t261 (some q264) _ A11.out).mono ?_); rintro e w40 ⟨rfl, hb⟩; refine ⟨_, rfl, ?_⟩; have n0_ := Aside0.mk (blk_below (g := gb257) (o := .cells #[.int .i64 t253, .int .i64 t254, .int .i64 t255] 50 (0, 0)) (by (with_reducible repeat (first | refine blk_drewN ?_ _ | refine blk_drew ?_ | refine blk_alloc ?_ _)); exact BK257.out) hb); have n1_ := Aside0.mk (below_step (by repeat (first | (with_reducible first | exact HB.out | apply below_alloc | apply pw_below_drewN | apply below_drew1 | refine below_set ?_ GE257.out) | exact HB.out)) hb); clear BK257; clear HB; have BK257 := n0_; have HB := n1_; clear n0_ n1_; (try clear hb); (try clear hb2); (try clear hk); (try clear hi); (try simp only [errW_none, errW_some])) | ((with_reducible refine gate_dst (N := 10) rfl ?_); refine box_event ?hg (N := 10) ?hd (cs := #[.int .i64 0, .int .i64 0, .int .i64 0]) (t := 26) ?hr ?_; (case hd => rfl); (case hg => rfl); (case hr => first | (go_simp; done) | (go_simp; rfl)); intro gb263 hg w41 hbox hb; have n0_ := Aside0.mk (blk_below (g := gb257) (o := .cells #[.int .i64 t253, .int .i64 t254, .int .i64 t255] 50 (0, 0)) (by (with_reducible repeat (first | refine blk_drewN ?_ _ | refine blk_drew ?_ | refine blk_alloc ?_ _)); exact BK257.out) hb); have n1_ := Aside0.mk (below_step (by repeat (first | (with_reducible first | exact HB.out | apply below_alloc | apply pw_below_drewN | apply below_drew1 | refine below_set ?_ GE257.out) | exact HB.out)) hb); have n2_ := Aside0.mk (hbox); have n3_ := Aside0.mk ((by rw [hg]; exact (below_size (by repeat (first | (with_reducible first | exact HB.out | apply below_alloc | apply pw_below_drewN | apply below_drew1 | refine below_set ?_ GE257.out) | exact HB.out))) : w.heap.size ≤ gb263)); have n4_ := Aside0.mk ((by rw [hg]; exact (below_size (by repeat (first | (with_reducible first | exact HB.out | apply below_alloc | apply pw_below_drewN | apply below_drew1 | refine below_set ?_ GE257.out) | exact HB.out))) : w.heap.size ≤ gb263)); have n5_ := Aside0.mk ((by rw [hg]; exact Nat.ne_of_lt (blk_lt (g := gb257) (o := .cells #[.int .i64 t253, .int .i64 t254, .int .i64 t255] 50 (0, 0)) (by (with_reducible repeat (first | refine blk_drewN ?_ _ | refine blk_drew ?_ | refine blk_alloc ?_ _)); exact BK257.out)) : gb257 ≠ gb263)); have n6_ := Aside0.mk ((by rw [hg]; exact Nat.ne_of_gt (blk_lt (g := gb257) (o := .cells #[.int .i64 t253, .int .i64 t254, .int .i64 t255] 50 (0, 0)) (by (with_reducible repeat (first | refine blk_drewN ?_ _ | refine blk_drew ?_ | refine blk_alloc ?_ _)); exact BK257.out)) : gb263 ≠ gb257)); clear BK257; clear HB; have BK257 := n0_; have HB := n1_; have BK263 := n2_; have GW263 := n3_; have GE263 := n4_; have NB257_263 := n5_; have NB263_257 := n6_; clear n0_ n1_ n2_ n3_ n4_ n5_ n6_; clear hb hbox hg; have hnb42 := NB263_257.out; have hnc42 := NB257_263.out; have hcz43_0 : w41.cell? ⟨gb263, 0, none⟩ = some (.int .i64 0) := (blk_cell BK263.out 0).trans rfl; have hcz43_1 : w41.cell? ⟨gb263, 1, none⟩ = some (.int .i64 0) := (blk_cell BK263.out 1).trans rfl; have hcz43_2 : w41.cell? ⟨gb263, 2, none⟩ = some (.int .i64 0) := (blk_cell BK263.out 2).trans rfl; have hfz43_0 := blk_frozen BK263.out 0; have hfz43_1 := blk_frozen BK263.out 1; have hfz43_2 := blk_frozen BK263.out 2))
          go_ret2
          exact ⟨by first | rfl | (simp [errW_none, errW_some] <;> rfl) | (simp [*, errW_none, errW_some] <;> rfl), by repeat (first | (with_reducible first | exact HB.out | apply below_alloc | apply pw_below_drewN | apply below_drew1 | refine below_set ?_ GE257.out | refine below_set ?_ GE263.out) | exact HB.out)⟩

end Go.Proofs.YtfjifhkgifefeaaGreatDoor.PA
end

section
/- daytime.number by its contract: the number of a text, -1 where it is none. Its text is walked; strconv.ParseInt by its contracts. -/
namespace Go.Proofs.YtfjifhkgifefeaaGreatDoor.Giv
open Go.RowKit Go.Proofs.YtfjifhkgifefeaaGreatDoor Go.Proofs.YtfjifhkgifefeaaGreatDoorW.PrintWords

theorem pint_ok (p : ByteArray) (hp : p.size ≤ 281474976710656) (v : Int) (h : Lib.atoiAll p.data.toList = .ok v) (w : World) :
    Calls Tryz.prog 113 #[.string p, .int .i64 10, .int .i64 64] w fun e w' => e = .returned (.tuple #[.int .i64 v, .nilIface]) ∧ Below w.heap.size w w' := by
  refine (Tryz.strconv_ParseInt_10_at64_ok p (by omega) v (by rw [Lib.parseIntB_64]; exact h) w).mono ?_
  rintro e w' ⟨rfl, rfl | ⟨t, rfl⟩⟩
  · exact ⟨rfl, Below.refl _ _⟩
  · exact ⟨rfl, Lib.bytesWorld_below _ _ _⟩
theorem pint_bad (p : ByteArray) (hp : p.size ≤ 281474976710656) (h : ∀ v, Lib.atoiAll p.data.toList ≠ .ok v) (w : World) (hl : Laid w) :
    Calls Tryz.prog 113 #[.string p, .int .i64 10, .int .i64 64] w fun e w' => ∃ u N, e = .returned (.tuple #[.int .i64 u, .iface 276 (.pointer (some ⟨N, 0, none⟩))]) ∧ Below w.heap.size w w' := by
  rcases hc : Lib.atoiAll p.data.toList with v | _ | _
  · exact absurd hc (h v)
  · obtain ⟨tp, q, e⟩ := hl.syn
    refine (Any.strconv_ParseInt_10_at64_syntax Tryz.laysC174 p hp (by rw [Lib.parseIntB_64]; exact hc) _ w e (.inr ⟨_, _, rfl⟩)).mono ?_
    rintro e w' ⟨N, rfl, -, -, hb⟩
    exact ⟨_, N, rfl, hb⟩
  · obtain ⟨tp, q, e⟩ := hl.rng
    refine (Tryz.strconv_ParseInt_10_at64_range p hp (by rw [Lib.parseIntB_64]; exact hc) _ w e (.inr ⟨_, _, rfl⟩)).mono ?_
    rintro e w' ⟨N, rfl, -, -, hb⟩
    exact ⟨_, N, rfl, hb⟩
def numberOf (l : List UInt8) : Int := match Lib.atoiAll l with | .ok v => v | _ => -1
def daytime_number.f (a0 : ByteArray) : Option Int := if a0.size ≤ 281474976710656 then some (numberOf a0.data.toList) else none
set_option maxHeartbeats 1000000 in
theorem daytime_number.calls (a0 : ByteArray) (r : Int) (w : World) (hl_ : Laid w) (h : daytime_number.f a0 = some r) :
    Calls Tryz.prog 101 #[.string a0] w fun e w' => e = .returned (.int .i64 r) ∧ Below w.heap.size w w' := by
  unfold daytime_number.f at h
  split at h
  rotate_left
  · cases h
  rename_i hs
  have hr := Option.some.inj h
  clear h
  unfold numberOf at hr
  by_cases c : ∃ v, Lib.atoiAll a0.data.toList = .ok v
  · obtain ⟨v, hv⟩ := c
    rw [hv] at hr
    have hr2 : v = r := hr
    subst hr2
    have H := Lib.hid hv
    clear hv hr
    go_enter Tryz.func101, Tryz.ntmps101
    go_wp2_with (go_at_call 113; (refine (pint_ok a0 hs v H.out _).mono ?_); rintro e w1 ⟨rfl, hb⟩)
    go_ret
    exact ⟨rfl, hb⟩
  · have hr2 : -1 = r := by
      revert hr
      rcases hc : Lib.atoiAll a0.data.toList with v | _ | _
      · exact absurd ⟨v, hc⟩ c
      · exact fun e => e
      · exact fun e => e
    subst hr2
    have H : Hid (∀ v, Lib.atoiAll a0.data.toList ≠ .ok v) := Lib.hid (fun v e => c ⟨v, e⟩)
    have HL := Aside0.mk hl_
    clear hr hl_ c
    go_enter Tryz.func101, Tryz.ntmps101
    go_wp2_with (go_at_call 113; (refine (pint_bad a0 hs H.out _ HL.out).mono ?_); rintro e w1 ⟨u, N, rfl, hb⟩)
    go_ret
    exact ⟨rfl, hb⟩
end Go.Proofs.YtfjifhkgifefeaaGreatDoor.Giv
end

section
/- civil.Parse by its contract: the date of a text, or the error 3. Its text is walked; strings.Split and strconv.Atoi by their contracts. -/
namespace Go.Proofs.YtfjifhkgifefeaaGreatDoor.Giv
open Go.RowKit Go.Proofs.YtfjifhkgifefeaaGreatDoor Go.Proofs.YtfjifhkgifefeaaGreatDoor.StrM Go.Proofs.YtfjifhkgifefeaaGreatDoor.CivM Go.Proofs.YtfjifhkgifefeaaGreatDoor.PA Go.Proofs.YtfjifhkgifefeaaGreatDoorW.PrintWords

theorem atoi_ok (p : ByteArray) (hp : p.size ≤ 4294967280) (v : Int) (h : Lib.atoiAll p.data.toList = .ok v) (w : World) :
    Calls Tryz.prog 97 #[.string p] w fun e w' => e = .returned (.tuple #[.int .i64 v, .nilIface]) ∧ Below w.heap.size w w' := by
  refine (Tryz.strconv_Atoi_ok p (by omega) v h w).mono ?_
  rintro e w' ⟨rfl, rfl | ⟨t, rfl⟩⟩
  · exact ⟨rfl, Below.refl _ _⟩
  · exact ⟨rfl, Lib.bytesWorld_below _ _ _⟩
theorem atoi_bad (p : ByteArray) (hp : p.size ≤ 4294967280) (h : ∀ v, Lib.atoiAll p.data.toList ≠ .ok v) (w : World) (hl : Laid w) :
    Calls Tryz.prog 97 #[.string p] w fun e w' => ∃ u N, e = .returned (.tuple #[.int .i64 u, .iface 276 (.pointer (some ⟨N, 0, none⟩))]) ∧ Below w.heap.size w w' := by
  rcases hc : Lib.atoiAll p.data.toList with v | _ | _
  · exact absurd hc (h v)
  · obtain ⟨tp, q, e⟩ := hl.syn
    refine (Any.strconv_Atoi_syntax Tryz.laysC172 p (by omega) hc _ w e (.inr ⟨_, _, rfl⟩)).mono ?_
    rintro e w' ⟨N, rfl, -, -, hb⟩
    exact ⟨_, N, rfl, hb⟩
  · obtain ⟨tp, q, e⟩ := hl.rng
    refine (Tryz.strconv_Atoi_range p (by omega) hc _ w e (.inr ⟨_, _, rfl⟩)).mono ?_
    rintro e w' ⟨N, rfl, -, -, hb⟩
    exact ⟨_, N, rfl, hb⟩
/-- strings.Split at a byte: the new row, under a letter of its own. -/
theorem split_at (s : ByteArray) (hs : s.size < 4294967281) (l : List ByteArray) (h : Lib.splitB ⟨#[45]⟩ 0 (Lib.countB s ⟨#[45]⟩) s = l) (w : World) (hl : Laid w) :
    Calls Tryz.prog 96 #[.string s, .string ⟨#[45]⟩] w fun e w' => ∃ g, e = .returned (.slice (some ⟨g, 0, none⟩) l.length l.length) ∧ w.heap.size ≤ g ∧ w'.heap[g]? = some (.cells (l.map Value.string).toArray 9 (0, 0)) ∧ Below w.heap.size w w' := by
  refine (Tryz.strings_Split_shaped s ⟨#[45]⟩ w hl.shaped hs (by simp [ByteArray.size])).mono ?_
  rintro e w' ⟨rfl, rfl⟩
  have hc := Lib.splitB_all ⟨#[45]⟩ (by simp [ByteArray.size]) 0 _ s rfl
  rw [h] at hc
  rw [h, ← hc]
  exact ⟨w.heap.size, rfl, Nat.le_refl _, blk_new _ _, (Below.refl _ _).alloc (Nat.le_refl _) _⟩

def civil_Parse.f (a0 : ByteArray) : Option (Int × Int × Int × Option Int) :=
  if a0.size < 4294967281 then some (match dateOf a0.data.toList with | some (y, m, d) => (y, m, d, none) | none => (0, 0, 0, some 3)) else none

def Parsed (B : Nat) (w : World) (y m d : Int) (r : Option Int) (e : Ending) (w' : World) : Prop :=
  e = .returned (.tuple #[.agg #[.int .i64 y, .int .i64 m, .int .i64 d], errW r]) ∧ Below B w w'

theorem split_3 (s : ByteArray) (hs : s.size < 4294967281) (p0 p1 p2 : ByteArray) (h : Lib.splitB ⟨#[45]⟩ 0 (Lib.countB s ⟨#[45]⟩) s = [p0, p1, p2]) (w : World) (hl : Laid w) :
    Calls Tryz.prog 96 #[.string s, .string ⟨#[45]⟩] w fun e w' => ∃ g, e = .returned (.slice (some ⟨g, 0, none⟩) 3 3) ∧ w.heap.size ≤ g ∧ w'.heap[g]? = some (.cells #[.string p0, .string p1, .string p2] 9 (0, 0)) ∧ Below w.heap.size w w' :=
  split_at s hs [p0, p1, p2] h w hl

set_option maxHeartbeats 4000000 in
set_option maxRecDepth 100000 in
theorem parse_len (s : ByteArray) (w : World) (hl : Laid w) (hs : s.size < 4294967281) (l : List ByteArray) (h : Lib.splitB ⟨#[45]⟩ 0 (Lib.countB s ⟨#[45]⟩) s = l) (hn : ((l.length : Int) == 3) = false) :
    Calls Tryz.prog 27 #[.string s] w (Parsed w.heap.size w 0 0 0 (some 3)) := by
  have hn2 : ((l.length : Int) != 3) = true := by simp [bne, hn]
  have H := Lib.hid h
  clear h
  have HB := Aside0.mk (Below.refl w.heap.size w)
  have HL := Aside0.mk hl
  clear hl
  go_enter Tryz.func27, Tryz.ntmps27
  go_wp2_with (go_at_call 96; (refine (split_at s hs l H.out _ (Laid.below HL.out (by repeat (first | (with_reducible first | exact HB.out | apply below_alloc | apply pw_below_drewN | apply below_drew1 | refine below_set ?_ GA.out | refine below_set ?_ (Nat.le_refl _)) | exact HB.out)))).mono ?_); rintro e w1 ⟨g, rfl, hg, hc, hb⟩; have BK := Aside0.mk (blk_below (blk_new w _) hb); have n0_ := Aside0.mk (below_step (below_alloc HB.out _) hb); clear HB; have HB := n0_; clear n0_; clear hb hc hg; have z0 : w1.cell? ⟨w.heap.size, 0, none⟩ = some (.int .i64 0) := (blk_cell BK.out 0).trans rfl; have z1 : w1.cell? ⟨w.heap.size, 1, none⟩ = some (.int .i64 0) := (blk_cell BK.out 1).trans rfl; have z2 : w1.cell? ⟨w.heap.size, 2, none⟩ = some (.int .i64 0) := (blk_cell BK.out 2).trans rfl; have f0 := blk_frozen BK.out 0; have f1 := blk_frozen BK.out 1; have f2 := blk_frozen BK.out 2)
  refine bodyPost_ret (results_ct rfl _ _ w.heap.size 26 #[.int .i64 0, .int .i64 0, .int .i64 0] (0, 0) _ rfl (by refine blk_put (cs := #[.int .i64 0, .int .i64 0, .int .i64 0]) ?_ 2 _ rfl; refine blk_put (cs := #[.int .i64 0, .int .i64 0, .int .i64 0]) ?_ 1 _ rfl; refine blk_put (cs := #[.int .i64 0, .int .i64 0, .int .i64 0]) ?_ 0 _ rfl; exact BK.out) Tryz.underlying26 rfl (by kernel_rfl)) rfl ?_
  exact ⟨rfl, by repeat (first | exact HB.out | refine below_set ?_ (Nat.le_refl _))⟩

set_option maxHeartbeats 8000000 in
set_option maxRecDepth 100000 in
theorem parse_bad0 (s : ByteArray) (w : World) (hl : Laid w) (hs : s.size < 4294967281) (p0 p1 p2 : ByteArray) (h : Lib.splitB ⟨#[45]⟩ 0 (Lib.countB s ⟨#[45]⟩) s = [p0, p1, p2]) (h0s : p0.size ≤ 4294967280) (h1s : p1.size ≤ 4294967280) (h2s : p2.size ≤ 4294967280) (h0 : ∀ v, Lib.atoiAll p0.data.toList ≠ .ok v) :
    Calls Tryz.prog 27 #[.string s] w (Parsed w.heap.size w 0 0 0 (some 3)) := by
  have H := Lib.hid h
  clear h
  have n_ := Lib.hid h0
  clear h0
  have h0 := n_
  clear n_
  have HB := Aside0.mk (Below.refl w.heap.size w)
  have HL := Aside0.mk hl
  clear hl
  go_enter Tryz.func27, Tryz.ntmps27
  go_wp2_with (first | (go_at_call 96; (refine (split_3 s hs p0 p1 p2 H.out _ (Laid.below HL.out (by repeat (first | (with_reducible first | exact HB.out | apply below_alloc | apply pw_below_drewN | apply below_drew1 | refine below_set ?_ GA.out | refine below_set ?_ (Nat.le_refl _)) | exact HB.out)))).mono ?_); rintro e w1 ⟨g, rfl, hg, hc, hb⟩; have BG := Aside0.mk hc; have BK := Aside0.mk (blk_below (blk_new w _) hb); have n0_ := Aside0.mk (below_step (below_alloc HB.out _) hb); clear HB; have HB := n0_; clear n0_; clear hb hc hg; have z0 : w1.cell? ⟨w.heap.size, 0, none⟩ = some (.int .i64 0) := (blk_cell BK.out 0).trans rfl; have z1 : w1.cell? ⟨w.heap.size, 1, none⟩ = some (.int .i64 0) := (blk_cell BK.out 1).trans rfl; have z2 : w1.cell? ⟨w.heap.size, 2, none⟩ = some (.int .i64 0) := (blk_cell BK.out 2).trans rfl; have f0 := blk_frozen BK.out 0; have f1 := blk_frozen BK.out 1; have f2 := blk_frozen BK.out 2) | ((with_reducible refine gate_dst (N := 5) rfl ?_); refine box_event ?hg (N := 5) ?hd (cs := #[.int .i64 0, .int .i64 0, .int .i64 0]) (t := 164) ?hr ?_; (case hd => rfl); (case hg => rfl); (case hr => first | (go_simp; done) | (go_simp; rfl)); intro ga hga w2 hbox hb2; have GA := Aside0.mk (show w.heap.size ≤ ga by rw [hga]; exact below_size HB.out); have n0_ := Aside0.mk (below_step HB.out hb2); have n1_ := Aside0.mk (blk_below BK.out hb2); have n2_ := Aside0.mk (blk_below BG.out hb2); have BA := Aside0.mk hbox; clear HB BK BG z0 z1 z2 f0 f1 f2; have HB := n0_; have BK := n1_; have BG := n2_; clear n0_ n1_ n2_; clear hb2 hbox hga; have NKA := Aside0.mk (blk_ne BK.out BA.out (by decide)); have NGA := Aside0.mk (blk_ne BG.out BA.out (by decide)); have y0 : w2.cell? ⟨g, 0, none⟩ = some (.string p0) := (blk_cell BG.out 0).trans rfl; have y1 : w2.cell? ⟨g, 1, none⟩ = some (.string p1) := (blk_cell BG.out 1).trans rfl; have y2 : w2.cell? ⟨g, 2, none⟩ = some (.string p2) := (blk_cell BG.out 2).trans rfl; have x0 : w2.cell? ⟨ga, 0, none⟩ = some (.int .i64 0) := (blk_cell BA.out 0).trans rfl; have x1 : w2.cell? ⟨ga, 1, none⟩ = some (.int .i64 0) := (blk_cell BA.out 1).trans rfl; have x2 : w2.cell? ⟨ga, 2, none⟩ = some (.int .i64 0) := (blk_cell BA.out 2).trans rfl; have q0 := blk_frozen BA.out 0; have q1 := blk_frozen BA.out 1; have q2 := blk_frozen BA.out 2))
  refine wp_loop_rounds 1 ?_
  rw [rounds_succ]
  go_wp2_with (first | (go_at_call 97; (with_reducible refine (atoi_bad p0 h0s h0.out _ (Laid.below HL.out (by repeat (first | (with_reducible first | exact HB.out | apply below_alloc | apply pw_below_drewN | apply below_drew1 | refine below_set ?_ GA.out | refine below_set ?_ (Nat.le_refl _)) | exact HB.out)))).mono ?_); rintro e w3 ⟨u, N, rfl, hb⟩; have n0_ := Aside0.mk (below_step HB.out hb); have n1_ := Aside0.mk (blk_below BK.out hb); have n2_ := Aside0.mk (blk_below BG.out hb); have n3_ := Aside0.mk (blk_below BA.out hb); clear HB BK BG BA y0 y1 y2 x0 x1 x2 q0 q1 q2; have HB := n0_; have BK := n1_; have BG := n2_; have BA := n3_; clear n0_ n1_ n2_ n3_; clear hb; have y0 : w3.cell? ⟨g, 0, none⟩ = some (.string p0) := (blk_cell BG.out 0).trans rfl; have y1 : w3.cell? ⟨g, 1, none⟩ = some (.string p1) := (blk_cell BG.out 1).trans rfl; have y2 : w3.cell? ⟨g, 2, none⟩ = some (.string p2) := (blk_cell BG.out 2).trans rfl; have x0 : w3.cell? ⟨ga, 0, none⟩ = some (.int .i64 0) := (blk_cell BA.out 0).trans rfl; have x1 : w3.cell? ⟨ga, 1, none⟩ = some (.int .i64 0) := (blk_cell BA.out 1).trans rfl; have x2 : w3.cell? ⟨ga, 2, none⟩ = some (.int .i64 0) := (blk_cell BA.out 2).trans rfl; have q0 := blk_frozen BA.out 0; have q1 := blk_frozen BA.out 1; have q2 := blk_frozen BA.out 2; have z0 : w3.cell? ⟨w.heap.size, 0, none⟩ = some (.int .i64 0) := (blk_cell BK.out 0).trans rfl; have z1 : w3.cell? ⟨w.heap.size, 1, none⟩ = some (.int .i64 0) := (blk_cell BK.out 1).trans rfl; have z2 : w3.cell? ⟨w.heap.size, 2, none⟩ = some (.int .i64 0) := (blk_cell BK.out 2).trans rfl; have f0 := blk_frozen BK.out 0; have f1 := blk_frozen BK.out 1; have f2 := blk_frozen BK.out 2))
  refine bodyPost_ret (results_ct rfl _ _ w.heap.size 26 #[.int .i64 0, .int .i64 0, .int .i64 0] (0, 0) _ rfl (by refine blk_put (cs := #[.int .i64 0, .int .i64 0, .int .i64 0]) ?_ 2 _ rfl; refine blk_put (cs := #[.int .i64 0, .int .i64 0, .int .i64 0]) ?_ 1 _ rfl; refine blk_put (cs := #[.int .i64 0, .int .i64 0, .int .i64 0]) ?_ 0 _ rfl; exact BK.out) Tryz.underlying26 rfl (by kernel_rfl)) rfl ?_
  exact ⟨rfl, by repeat (first | exact HB.out | refine below_set ?_ (Nat.le_refl _))⟩

set_option maxHeartbeats 8000000 in
set_option maxRecDepth 100000 in
theorem parse_bad1 (s : ByteArray) (w : World) (hl : Laid w) (hs : s.size < 4294967281) (p0 p1 p2 : ByteArray) (h : Lib.splitB ⟨#[45]⟩ 0 (Lib.countB s ⟨#[45]⟩) s = [p0, p1, p2]) (h0s : p0.size ≤ 4294967280) (h1s : p1.size ≤ 4294967280) (h2s : p2.size ≤ 4294967280) (v0 : Int) (h0 : Lib.atoiAll p0.data.toList = .ok v0) (h1 : ∀ v, Lib.atoiAll p1.data.toList ≠ .ok v) :
    Calls Tryz.prog 27 #[.string s] w (Parsed w.heap.size w 0 0 0 (some 3)) := by
  have H := Lib.hid h
  clear h
  have n_ := Lib.hid h0
  clear h0
  have h0 := n_
  clear n_
  have n_ := Lib.hid h1
  clear h1
  have h1 := n_
  clear n_
  have HB := Aside0.mk (Below.refl w.heap.size w)
  have HL := Aside0.mk hl
  clear hl
  go_enter Tryz.func27, Tryz.ntmps27
  go_wp2_with (first | (go_at_call 96; (refine (split_3 s hs p0 p1 p2 H.out _ (Laid.below HL.out (by repeat (first | (with_reducible first | exact HB.out | apply below_alloc | apply pw_below_drewN | apply below_drew1 | refine below_set ?_ GA.out | refine below_set ?_ (Nat.le_refl _)) | exact HB.out)))).mono ?_); rintro e w1 ⟨g, rfl, hg, hc, hb⟩; have BG := Aside0.mk hc; have BK := Aside0.mk (blk_below (blk_new w _) hb); have n0_ := Aside0.mk (below_step (below_alloc HB.out _) hb); clear HB; have HB := n0_; clear n0_; clear hb hc hg; have z0 : w1.cell? ⟨w.heap.size, 0, none⟩ = some (.int .i64 0) := (blk_cell BK.out 0).trans rfl; have z1 : w1.cell? ⟨w.heap.size, 1, none⟩ = some (.int .i64 0) := (blk_cell BK.out 1).trans rfl; have z2 : w1.cell? ⟨w.heap.size, 2, none⟩ = some (.int .i64 0) := (blk_cell BK.out 2).trans rfl; have f0 := blk_frozen BK.out 0; have f1 := blk_frozen BK.out 1; have f2 := blk_frozen BK.out 2) | ((with_reducible refine gate_dst (N := 5) rfl ?_); refine box_event ?hg (N := 5) ?hd (cs := #[.int .i64 0, .int .i64 0, .int .i64 0]) (t := 164) ?hr ?_; (case hd => rfl); (case hg => rfl); (case hr => first | (go_simp; done) | (go_simp; rfl)); intro ga hga w2 hbox hb2; have GA := Aside0.mk (show w.heap.size ≤ ga by rw [hga]; exact below_size HB.out); have n0_ := Aside0.mk (below_step HB.out hb2); have n1_ := Aside0.mk (blk_below BK.out hb2); have n2_ := Aside0.mk (blk_below BG.out hb2); have BA := Aside0.mk hbox; clear HB BK BG z0 z1 z2 f0 f1 f2; have HB := n0_; have BK := n1_; have BG := n2_; clear n0_ n1_ n2_; clear hb2 hbox hga; have NKA := Aside0.mk (blk_ne BK.out BA.out (by decide)); have NGA := Aside0.mk (blk_ne BG.out BA.out (by decide)); have y0 : w2.cell? ⟨g, 0, none⟩ = some (.string p0) := (blk_cell BG.out 0).trans rfl; have y1 : w2.cell? ⟨g, 1, none⟩ = some (.string p1) := (blk_cell BG.out 1).trans rfl; have y2 : w2.cell? ⟨g, 2, none⟩ = some (.string p2) := (blk_cell BG.out 2).trans rfl; have x0 : w2.cell? ⟨ga, 0, none⟩ = some (.int .i64 0) := (blk_cell BA.out 0).trans rfl; have x1 : w2.cell? ⟨ga, 1, none⟩ = some (.int .i64 0) := (blk_cell BA.out 1).trans rfl; have x2 : w2.cell? ⟨ga, 2, none⟩ = some (.int .i64 0) := (blk_cell BA.out 2).trans rfl; have q0 := blk_frozen BA.out 0; have q1 := blk_frozen BA.out 1; have q2 := blk_frozen BA.out 2))
  refine wp_loop_rounds 2 ?_
  rw [rounds_succ]
  go_wp2_with (first | (go_at_call 97; (with_reducible refine (atoi_ok p0 h0s v0 h0.out _).mono ?_); rintro e w3 ⟨rfl, hb⟩; have n0_ := Aside0.mk (below_step HB.out hb); have n1_ := Aside0.mk (blk_below BK.out hb); have n2_ := Aside0.mk (blk_below BG.out hb); have n3_ := Aside0.mk (blk_below BA.out hb); clear HB BK BG BA y0 y1 y2 x0 x1 x2 q0 q1 q2; have HB := n0_; have BK := n1_; have BG := n2_; have BA := n3_; clear n0_ n1_ n2_ n3_; clear hb; have y0 : w3.cell? ⟨g, 0, none⟩ = some (.string p0) := (blk_cell BG.out 0).trans rfl; have y1 : w3.cell? ⟨g, 1, none⟩ = some (.string p1) := (blk_cell BG.out 1).trans rfl; have y2 : w3.cell? ⟨g, 2, none⟩ = some (.string p2) := (blk_cell BG.out 2).trans rfl; have x0 : w3.cell? ⟨ga, 0, none⟩ = some (.int .i64 0) := (blk_cell BA.out 0).trans rfl; have x1 : w3.cell? ⟨ga, 1, none⟩ = some (.int .i64 0) := (blk_cell BA.out 1).trans rfl; have x2 : w3.cell? ⟨ga, 2, none⟩ = some (.int .i64 0) := (blk_cell BA.out 2).trans rfl; have q0 := blk_frozen BA.out 0; have q1 := blk_frozen BA.out 1; have q2 := blk_frozen BA.out 2; have z0 : w3.cell? ⟨w.heap.size, 0, none⟩ = some (.int .i64 0) := (blk_cell BK.out 0).trans rfl; have z1 : w3.cell? ⟨w.heap.size, 1, none⟩ = some (.int .i64 0) := (blk_cell BK.out 1).trans rfl; have z2 : w3.cell? ⟨w.heap.size, 2, none⟩ = some (.int .i64 0) := (blk_cell BK.out 2).trans rfl; have f0 := blk_frozen BK.out 0; have f1 := blk_frozen BK.out 1; have f2 := blk_frozen BK.out 2))
  rw [rounds_succ]
  go_wp2_with (first | (go_at_call 97; (with_reducible refine (atoi_bad p1 h1s h1.out _ (Laid.below HL.out (by repeat (first | (with_reducible first | exact HB.out | apply below_alloc | apply pw_below_drewN | apply below_drew1 | refine below_set ?_ GA.out | refine below_set ?_ (Nat.le_refl _)) | exact HB.out)))).mono ?_); rintro e w4 ⟨u, N, rfl, hb⟩; have n0_ := Aside0.mk (below_step (below_set HB.out GA.out) hb); have n1_ := Aside0.mk (blk_below (blk_far BK.out NKA.out _) hb); have n2_ := Aside0.mk (blk_below (blk_far BG.out NGA.out _) hb); have n3_ := Aside0.mk (blk_below (blk_put (cs' := #[.int .i64 v0, .int .i64 0, .int .i64 0]) BA.out 0 (.int .i64 v0) rfl) hb); clear HB BK BG BA y0 y1 y2 x0 x1 x2 q0 q1 q2; have HB := n0_; have BK := n1_; have BG := n2_; have BA := n3_; clear n0_ n1_ n2_ n3_; clear hb; have y0 : w4.cell? ⟨g, 0, none⟩ = some (.string p0) := (blk_cell BG.out 0).trans rfl; have y1 : w4.cell? ⟨g, 1, none⟩ = some (.string p1) := (blk_cell BG.out 1).trans rfl; have y2 : w4.cell? ⟨g, 2, none⟩ = some (.string p2) := (blk_cell BG.out 2).trans rfl; have x0 : w4.cell? ⟨ga, 0, none⟩ = some (.int .i64 v0) := (blk_cell BA.out 0).trans rfl; have x1 : w4.cell? ⟨ga, 1, none⟩ = some (.int .i64 0) := (blk_cell BA.out 1).trans rfl; have x2 : w4.cell? ⟨ga, 2, none⟩ = some (.int .i64 0) := (blk_cell BA.out 2).trans rfl; have q0 := blk_frozen BA.out 0; have q1 := blk_frozen BA.out 1; have q2 := blk_frozen BA.out 2; have z0 : w4.cell? ⟨w.heap.size, 0, none⟩ = some (.int .i64 0) := (blk_cell BK.out 0).trans rfl; have z1 : w4.cell? ⟨w.heap.size, 1, none⟩ = some (.int .i64 0) := (blk_cell BK.out 1).trans rfl; have z2 : w4.cell? ⟨w.heap.size, 2, none⟩ = some (.int .i64 0) := (blk_cell BK.out 2).trans rfl; have f0 := blk_frozen BK.out 0; have f1 := blk_frozen BK.out 1; have f2 := blk_frozen BK.out 2))
  refine bodyPost_ret (results_ct rfl _ _ w.heap.size 26 #[.int .i64 0, .int .i64 0, .int .i64 0] (0, 0) _ rfl (by refine blk_put (cs := #[.int .i64 0, .int .i64 0, .int .i64 0]) ?_ 2 _ rfl; refine blk_put (cs := #[.int .i64 0, .int .i64 0, .int .i64 0]) ?_ 1 _ rfl; refine blk_put (cs := #[.int .i64 0, .int .i64 0, .int .i64 0]) ?_ 0 _ rfl; exact BK.out) Tryz.underlying26 rfl (by kernel_rfl)) rfl ?_
  exact ⟨rfl, by repeat (first | exact HB.out | refine below_set ?_ (Nat.le_refl _))⟩

set_option maxHeartbeats 8000000 in
set_option maxRecDepth 100000 in
theorem parse_bad2 (s : ByteArray) (w : World) (hl : Laid w) (hs : s.size < 4294967281) (p0 p1 p2 : ByteArray) (h : Lib.splitB ⟨#[45]⟩ 0 (Lib.countB s ⟨#[45]⟩) s = [p0, p1, p2]) (h0s : p0.size ≤ 4294967280) (h1s : p1.size ≤ 4294967280) (h2s : p2.size ≤ 4294967280) (v0 : Int) (h0 : Lib.atoiAll p0.data.toList = .ok v0) (v1 : Int) (h1 : Lib.atoiAll p1.data.toList = .ok v1) (h2 : ∀ v, Lib.atoiAll p2.data.toList ≠ .ok v) :
    Calls Tryz.prog 27 #[.string s] w (Parsed w.heap.size w 0 0 0 (some 3)) := by
  have H := Lib.hid h
  clear h
  have n_ := Lib.hid h0
  clear h0
  have h0 := n_
  clear n_
  have n_ := Lib.hid h1
  clear h1
  have h1 := n_
  clear n_
  have n_ := Lib.hid h2
  clear h2
  have h2 := n_
  clear n_
  have HB := Aside0.mk (Below.refl w.heap.size w)
  have HL := Aside0.mk hl
  clear hl
  go_enter Tryz.func27, Tryz.ntmps27
  go_wp2_with (first | (go_at_call 96; (refine (split_3 s hs p0 p1 p2 H.out _ (Laid.below HL.out (by repeat (first | (with_reducible first | exact HB.out | apply below_alloc | apply pw_below_drewN | apply below_drew1 | refine below_set ?_ GA.out | refine below_set ?_ (Nat.le_refl _)) | exact HB.out)))).mono ?_); rintro e w1 ⟨g, rfl, hg, hc, hb⟩; have BG := Aside0.mk hc; have BK := Aside0.mk (blk_below (blk_new w _) hb); have n0_ := Aside0.mk (below_step (below_alloc HB.out _) hb); clear HB; have HB := n0_; clear n0_; clear hb hc hg; have z0 : w1.cell? ⟨w.heap.size, 0, none⟩ = some (.int .i64 0) := (blk_cell BK.out 0).trans rfl; have z1 : w1.cell? ⟨w.heap.size, 1, none⟩ = some (.int .i64 0) := (blk_cell BK.out 1).trans rfl; have z2 : w1.cell? ⟨w.heap.size, 2, none⟩ = some (.int .i64 0) := (blk_cell BK.out 2).trans rfl; have f0 := blk_frozen BK.out 0; have f1 := blk_frozen BK.out 1; have f2 := blk_frozen BK.out 2) | ((with_reducible refine gate_dst (N := 5) rfl ?_); refine box_event ?hg (N := 5) ?hd (cs := #[.int .i64 0, .int .i64 0, .int .i64 0]) (t := 164) ?hr ?_; (case hd => rfl); (case hg => rfl); (case hr => first | (go_simp; done) | (go_simp; rfl)); intro ga hga w2 hbox hb2; have GA := Aside0.mk (show w.heap.size ≤ ga by rw [hga]; exact below_size HB.out); have n0_ := Aside0.mk (below_step HB.out hb2); have n1_ := Aside0.mk (blk_below BK.out hb2); have n2_ := Aside0.mk (blk_below BG.out hb2); have BA := Aside0.mk hbox; clear HB BK BG z0 z1 z2 f0 f1 f2; have HB := n0_; have BK := n1_; have BG := n2_; clear n0_ n1_ n2_; clear hb2 hbox hga; have NKA := Aside0.mk (blk_ne BK.out BA.out (by decide)); have NGA := Aside0.mk (blk_ne BG.out BA.out (by decide)); have y0 : w2.cell? ⟨g, 0, none⟩ = some (.string p0) := (blk_cell BG.out 0).trans rfl; have y1 : w2.cell? ⟨g, 1, none⟩ = some (.string p1) := (blk_cell BG.out 1).trans rfl; have y2 : w2.cell? ⟨g, 2, none⟩ = some (.string p2) := (blk_cell BG.out 2).trans rfl; have x0 : w2.cell? ⟨ga, 0, none⟩ = some (.int .i64 0) := (blk_cell BA.out 0).trans rfl; have x1 : w2.cell? ⟨ga, 1, none⟩ = some (.int .i64 0) := (blk_cell BA.out 1).trans rfl; have x2 : w2.cell? ⟨ga, 2, none⟩ = some (.int .i64 0) := (blk_cell BA.out 2).trans rfl; have q0 := blk_frozen BA.out 0; have q1 := blk_frozen BA.out 1; have q2 := blk_frozen BA.out 2))
  refine wp_loop_rounds 3 ?_
  rw [rounds_succ]
  go_wp2_with (first | (go_at_call 97; (with_reducible refine (atoi_ok p0 h0s v0 h0.out _).mono ?_); rintro e w3 ⟨rfl, hb⟩; have n0_ := Aside0.mk (below_step HB.out hb); have n1_ := Aside0.mk (blk_below BK.out hb); have n2_ := Aside0.mk (blk_below BG.out hb); have n3_ := Aside0.mk (blk_below BA.out hb); clear HB BK BG BA y0 y1 y2 x0 x1 x2 q0 q1 q2; have HB := n0_; have BK := n1_; have BG := n2_; have BA := n3_; clear n0_ n1_ n2_ n3_; clear hb; have y0 : w3.cell? ⟨g, 0, none⟩ = some (.string p0) := (blk_cell BG.out 0).trans rfl; have y1 : w3.cell? ⟨g, 1, none⟩ = some (.string p1) := (blk_cell BG.out 1).trans rfl; have y2 : w3.cell? ⟨g, 2, none⟩ = some (.string p2) := (blk_cell BG.out 2).trans rfl; have x0 : w3.cell? ⟨ga, 0, none⟩ = some (.int .i64 0) := (blk_cell BA.out 0).trans rfl; have x1 : w3.cell? ⟨ga, 1, none⟩ = some (.int .i64 0) := (blk_cell BA.out 1).trans rfl; have x2 : w3.cell? ⟨ga, 2, none⟩ = some (.int .i64 0) := (blk_cell BA.out 2).trans rfl; have q0 := blk_frozen BA.out 0; have q1 := blk_frozen BA.out 1; have q2 := blk_frozen BA.out 2; have z0 : w3.cell? ⟨w.heap.size, 0, none⟩ = some (.int .i64 0) := (blk_cell BK.out 0).trans rfl; have z1 : w3.cell? ⟨w.heap.size, 1, none⟩ = some (.int .i64 0) := (blk_cell BK.out 1).trans rfl; have z2 : w3.cell? ⟨w.heap.size, 2, none⟩ = some (.int .i64 0) := (blk_cell BK.out 2).trans rfl; have f0 := blk_frozen BK.out 0; have f1 := blk_frozen BK.out 1; have f2 := blk_frozen BK.out 2))
  rw [rounds_succ]
  go_wp2_with (first | (go_at_call 97; (with_reducible refine (atoi_ok p1 h1s v1 h1.out _).mono ?_); rintro e w4 ⟨rfl, hb⟩; have n0_ := Aside0.mk (below_step (below_set HB.out GA.out) hb); have n1_ := Aside0.mk (blk_below (blk_far BK.out NKA.out _) hb); have n2_ := Aside0.mk (blk_below (blk_far BG.out NGA.out _) hb); have n3_ := Aside0.mk (blk_below (blk_put (cs' := #[.int .i64 v0, .int .i64 0, .int .i64 0]) BA.out 0 (.int .i64 v0) rfl) hb); clear HB BK BG BA y0 y1 y2 x0 x1 x2 q0 q1 q2; have HB := n0_; have BK := n1_; have BG := n2_; have BA := n3_; clear n0_ n1_ n2_ n3_; clear hb; have y0 : w4.cell? ⟨g, 0, none⟩ = some (.string p0) := (blk_cell BG.out 0).trans rfl; have y1 : w4.cell? ⟨g, 1, none⟩ = some (.string p1) := (blk_cell BG.out 1).trans rfl; have y2 : w4.cell? ⟨g, 2, none⟩ = some (.string p2) := (blk_cell BG.out 2).trans rfl; have x0 : w4.cell? ⟨ga, 0, none⟩ = some (.int .i64 v0) := (blk_cell BA.out 0).trans rfl; have x1 : w4.cell? ⟨ga, 1, none⟩ = some (.int .i64 0) := (blk_cell BA.out 1).trans rfl; have x2 : w4.cell? ⟨ga, 2, none⟩ = some (.int .i64 0) := (blk_cell BA.out 2).trans rfl; have q0 := blk_frozen BA.out 0; have q1 := blk_frozen BA.out 1; have q2 := blk_frozen BA.out 2; have z0 : w4.cell? ⟨w.heap.size, 0, none⟩ = some (.int .i64 0) := (blk_cell BK.out 0).trans rfl; have z1 : w4.cell? ⟨w.heap.size, 1, none⟩ = some (.int .i64 0) := (blk_cell BK.out 1).trans rfl; have z2 : w4.cell? ⟨w.heap.size, 2, none⟩ = some (.int .i64 0) := (blk_cell BK.out 2).trans rfl; have f0 := blk_frozen BK.out 0; have f1 := blk_frozen BK.out 1; have f2 := blk_frozen BK.out 2))
  rw [rounds_succ]
  go_wp2_with (first | (go_at_call 97; (with_reducible refine (atoi_bad p2 h2s h2.out _ (Laid.below HL.out (by repeat (first | (with_reducible first | exact HB.out | apply below_alloc | apply pw_below_drewN | apply below_drew1 | refine below_set ?_ GA.out | refine below_set ?_ (Nat.le_refl _)) | exact HB.out)))).mono ?_); rintro e w5 ⟨u, N, rfl, hb⟩; have n0_ := Aside0.mk (below_step (below_set HB.out GA.out) hb); have n1_ := Aside0.mk (blk_below (blk_far BK.out NKA.out _) hb); have n2_ := Aside0.mk (blk_below (blk_far BG.out NGA.out _) hb); have n3_ := Aside0.mk (blk_below (blk_put (cs' := #[.int .i64 v0, .int .i64 v1, .int .i64 0]) BA.out 1 (.int .i64 v1) rfl) hb); clear HB BK BG BA y0 y1 y2 x0 x1 x2 q0 q1 q2; have HB := n0_; have BK := n1_; have BG := n2_; have BA := n3_; clear n0_ n1_ n2_ n3_; clear hb; have y0 : w5.cell? ⟨g, 0, none⟩ = some (.string p0) := (blk_cell BG.out 0).trans rfl; have y1 : w5.cell? ⟨g, 1, none⟩ = some (.string p1) := (blk_cell BG.out 1).trans rfl; have y2 : w5.cell? ⟨g, 2, none⟩ = some (.string p2) := (blk_cell BG.out 2).trans rfl; have x0 : w5.cell? ⟨ga, 0, none⟩ = some (.int .i64 v0) := (blk_cell BA.out 0).trans rfl; have x1 : w5.cell? ⟨ga, 1, none⟩ = some (.int .i64 v1) := (blk_cell BA.out 1).trans rfl; have x2 : w5.cell? ⟨ga, 2, none⟩ = some (.int .i64 0) := (blk_cell BA.out 2).trans rfl; have q0 := blk_frozen BA.out 0; have q1 := blk_frozen BA.out 1; have q2 := blk_frozen BA.out 2; have z0 : w5.cell? ⟨w.heap.size, 0, none⟩ = some (.int .i64 0) := (blk_cell BK.out 0).trans rfl; have z1 : w5.cell? ⟨w.heap.size, 1, none⟩ = some (.int .i64 0) := (blk_cell BK.out 1).trans rfl; have z2 : w5.cell? ⟨w.heap.size, 2, none⟩ = some (.int .i64 0) := (blk_cell BK.out 2).trans rfl; have f0 := blk_frozen BK.out 0; have f1 := blk_frozen BK.out 1; have f2 := blk_frozen BK.out 2))
  refine bodyPost_ret (results_ct rfl _ _ w.heap.size 26 #[.int .i64 0, .int .i64 0, .int .i64 0] (0, 0) _ rfl (by refine blk_put (cs := #[.int .i64 0, .int .i64 0, .int .i64 0]) ?_ 2 _ rfl; refine blk_put (cs := #[.int .i64 0, .int .i64 0, .int .i64 0]) ?_ 1 _ rfl; refine blk_put (cs := #[.int .i64 0, .int .i64 0, .int .i64 0]) ?_ 0 _ rfl; exact BK.out) Tryz.underlying26 rfl (by kernel_rfl)) rfl ?_
  exact ⟨rfl, by repeat (first | exact HB.out | refine below_set ?_ (Nat.le_refl _))⟩

set_option maxHeartbeats 8000000 in
set_option maxRecDepth 100000 in
theorem parse_inv (s : ByteArray) (w : World) (hl : Laid w) (hs : s.size < 4294967281) (p0 p1 p2 : ByteArray) (h : Lib.splitB ⟨#[45]⟩ 0 (Lib.countB s ⟨#[45]⟩) s = [p0, p1, p2]) (h0s : p0.size ≤ 4294967280) (h1s : p1.size ≤ 4294967280) (h2s : p2.size ≤ 4294967280) (v0 : Int) (h0 : Lib.atoiAll p0.data.toList = .ok v0) (v1 : Int) (h1 : Lib.atoiAll p1.data.toList = .ok v1) (v2 : Int) (h2 : Lib.atoiAll p2.data.toList = .ok v2) (nv : ¬ vld v0 v1 v2) :
    Calls Tryz.prog 27 #[.string s] w (Parsed w.heap.size w 0 0 0 (some 3)) := by
  have H := Lib.hid h
  clear h
  have n_ := Lib.hid h0
  clear h0
  have h0 := n_
  clear n_
  have n_ := Lib.hid h1
  clear h1
  have h1 := n_
  clear n_
  have n_ := Lib.hid h2
  clear h2
  have h2 := n_
  clear n_
  have hT := Aside0.mk (show civil_Text.f 2 v0 v1 v2 = some (⟨#[]⟩, some 1) by rw [CivP.text 2 _ _ _ (by omega), if_neg nv])
  clear nv
  have HB := Aside0.mk (Below.refl w.heap.size w)
  have HL := Aside0.mk hl
  clear hl
  go_enter Tryz.func27, Tryz.ntmps27
  go_wp2_with (first | (go_at_call 96; (refine (split_3 s hs p0 p1 p2 H.out _ (Laid.below HL.out (by repeat (first | (with_reducible first | exact HB.out | apply below_alloc | apply pw_below_drewN | apply below_drew1 | refine below_set ?_ GA.out | refine below_set ?_ (Nat.le_refl _)) | exact HB.out)))).mono ?_); rintro e w1 ⟨g, rfl, hg, hc, hb⟩; have BG := Aside0.mk hc; have BK := Aside0.mk (blk_below (blk_new w _) hb); have n0_ := Aside0.mk (below_step (below_alloc HB.out _) hb); clear HB; have HB := n0_; clear n0_; clear hb hc hg; have z0 : w1.cell? ⟨w.heap.size, 0, none⟩ = some (.int .i64 0) := (blk_cell BK.out 0).trans rfl; have z1 : w1.cell? ⟨w.heap.size, 1, none⟩ = some (.int .i64 0) := (blk_cell BK.out 1).trans rfl; have z2 : w1.cell? ⟨w.heap.size, 2, none⟩ = some (.int .i64 0) := (blk_cell BK.out 2).trans rfl; have f0 := blk_frozen BK.out 0; have f1 := blk_frozen BK.out 1; have f2 := blk_frozen BK.out 2) | ((with_reducible refine gate_dst (N := 5) rfl ?_); refine box_event ?hg (N := 5) ?hd (cs := #[.int .i64 0, .int .i64 0, .int .i64 0]) (t := 164) ?hr ?_; (case hd => rfl); (case hg => rfl); (case hr => first | (go_simp; done) | (go_simp; rfl)); intro ga hga w2 hbox hb2; have GA := Aside0.mk (show w.heap.size ≤ ga by rw [hga]; exact below_size HB.out); have n0_ := Aside0.mk (below_step HB.out hb2); have n1_ := Aside0.mk (blk_below BK.out hb2); have n2_ := Aside0.mk (blk_below BG.out hb2); have BA := Aside0.mk hbox; clear HB BK BG z0 z1 z2 f0 f1 f2; have HB := n0_; have BK := n1_; have BG := n2_; clear n0_ n1_ n2_; clear hb2 hbox hga; have NKA := Aside0.mk (blk_ne BK.out BA.out (by decide)); have NGA := Aside0.mk (blk_ne BG.out BA.out (by decide)); have y0 : w2.cell? ⟨g, 0, none⟩ = some (.string p0) := (blk_cell BG.out 0).trans rfl; have y1 : w2.cell? ⟨g, 1, none⟩ = some (.string p1) := (blk_cell BG.out 1).trans rfl; have y2 : w2.cell? ⟨g, 2, none⟩ = some (.string p2) := (blk_cell BG.out 2).trans rfl; have x0 : w2.cell? ⟨ga, 0, none⟩ = some (.int .i64 0) := (blk_cell BA.out 0).trans rfl; have x1 : w2.cell? ⟨ga, 1, none⟩ = some (.int .i64 0) := (blk_cell BA.out 1).trans rfl; have x2 : w2.cell? ⟨ga, 2, none⟩ = some (.int .i64 0) := (blk_cell BA.out 2).trans rfl; have q0 := blk_frozen BA.out 0; have q1 := blk_frozen BA.out 1; have q2 := blk_frozen BA.out 2))
  refine wp_loop_rounds 4 ?_
  rw [rounds_succ]
  go_wp2_with (first | (go_at_call 97; (with_reducible refine (atoi_ok p0 h0s v0 h0.out _).mono ?_); rintro e w3 ⟨rfl, hb⟩; have n0_ := Aside0.mk (below_step HB.out hb); have n1_ := Aside0.mk (blk_below BK.out hb); have n2_ := Aside0.mk (blk_below BG.out hb); have n3_ := Aside0.mk (blk_below BA.out hb); clear HB BK BG BA y0 y1 y2 x0 x1 x2 q0 q1 q2; have HB := n0_; have BK := n1_; have BG := n2_; have BA := n3_; clear n0_ n1_ n2_ n3_; clear hb; have y0 : w3.cell? ⟨g, 0, none⟩ = some (.string p0) := (blk_cell BG.out 0).trans rfl; have y1 : w3.cell? ⟨g, 1, none⟩ = some (.string p1) := (blk_cell BG.out 1).trans rfl; have y2 : w3.cell? ⟨g, 2, none⟩ = some (.string p2) := (blk_cell BG.out 2).trans rfl; have x0 : w3.cell? ⟨ga, 0, none⟩ = some (.int .i64 0) := (blk_cell BA.out 0).trans rfl; have x1 : w3.cell? ⟨ga, 1, none⟩ = some (.int .i64 0) := (blk_cell BA.out 1).trans rfl; have x2 : w3.cell? ⟨ga, 2, none⟩ = some (.int .i64 0) := (blk_cell BA.out 2).trans rfl; have q0 := blk_frozen BA.out 0; have q1 := blk_frozen BA.out 1; have q2 := blk_frozen BA.out 2; have z0 : w3.cell? ⟨w.heap.size, 0, none⟩ = some (.int .i64 0) := (blk_cell BK.out 0).trans rfl; have z1 : w3.cell? ⟨w.heap.size, 1, none⟩ = some (.int .i64 0) := (blk_cell BK.out 1).trans rfl; have z2 : w3.cell? ⟨w.heap.size, 2, none⟩ = some (.int .i64 0) := (blk_cell BK.out 2).trans rfl; have f0 := blk_frozen BK.out 0; have f1 := blk_frozen BK.out 1; have f2 := blk_frozen BK.out 2))
  rw [rounds_succ]
  go_wp2_with (first | (go_at_call 97; (with_reducible refine (atoi_ok p1 h1s v1 h1.out _).mono ?_); rintro e w4 ⟨rfl, hb⟩; have n0_ := Aside0.mk (below_step (below_set HB.out GA.out) hb); have n1_ := Aside0.mk (blk_below (blk_far BK.out NKA.out _) hb); have n2_ := Aside0.mk (blk_below (blk_far BG.out NGA.out _) hb); have n3_ := Aside0.mk (blk_below (blk_put (cs' := #[.int .i64 v0, .int .i64 0, .int .i64 0]) BA.out 0 (.int .i64 v0) rfl) hb); clear HB BK BG BA y0 y1 y2 x0 x1 x2 q0 q1 q2; have HB := n0_; have BK := n1_; have BG := n2_; have BA := n3_; clear n0_ n1_ n2_ n3_; clear hb; have y0 : w4.cell? ⟨g, 0, none⟩ = some (.string p0) := (blk_cell BG.out 0).trans rfl; have y1 : w4.cell? ⟨g, 1, none⟩ = some (.string p1) := (blk_cell BG.out 1).trans rfl; have y2 : w4.cell? ⟨g, 2, none⟩ = some (.string p2) := (blk_cell BG.out 2).trans rfl; have x0 : w4.cell? ⟨ga, 0, none⟩ = some (.int .i64 v0) := (blk_cell BA.out 0).trans rfl; have x1 : w4.cell? ⟨ga, 1, none⟩ = some (.int .i64 0) := (blk_cell BA.out 1).trans rfl; have x2 : w4.cell? ⟨ga, 2, none⟩ = some (.int .i64 0) := (blk_cell BA.out 2).trans rfl; have q0 := blk_frozen BA.out 0; have q1 := blk_frozen BA.out 1; have q2 := blk_frozen BA.out 2; have z0 : w4.cell? ⟨w.heap.size, 0, none⟩ = some (.int .i64 0) := (blk_cell BK.out 0).trans rfl; have z1 : w4.cell? ⟨w.heap.size, 1, none⟩ = some (.int .i64 0) := (blk_cell BK.out 1).trans rfl; have z2 : w4.cell? ⟨w.heap.size, 2, none⟩ = some (.int .i64 0) := (blk_cell BK.out 2).trans rfl; have f0 := blk_frozen BK.out 0; have f1 := blk_frozen BK.out 1; have f2 := blk_frozen BK.out 2))
  rw [rounds_succ]
  go_wp2_with (first | (go_at_call 97; (with_reducible refine (atoi_ok p2 h2s v2 h2.out _).mono ?_); rintro e w5 ⟨rfl, hb⟩; have n0_ := Aside0.mk (below_step (below_set HB.out GA.out) hb); have n1_ := Aside0.mk (blk_below (blk_far BK.out NKA.out _) hb); have n2_ := Aside0.mk (blk_below (blk_far BG.out NGA.out _) hb); have n3_ := Aside0.mk (blk_below (blk_put (cs' := #[.int .i64 v0, .int .i64 v1, .int .i64 0]) BA.out 1 (.int .i64 v1) rfl) hb); clear HB BK BG BA y0 y1 y2 x0 x1 x2 q0 q1 q2; have HB := n0_; have BK := n1_; have BG := n2_; have BA := n3_; clear n0_ n1_ n2_ n3_; clear hb; have y0 : w5.cell? ⟨g, 0, none⟩ = some (.string p0) := (blk_cell BG.out 0).trans rfl; have y1 : w5.cell? ⟨g, 1, none⟩ = some (.string p1) := (blk_cell BG.out 1).trans rfl; have y2 : w5.cell? ⟨g, 2, none⟩ = some (.string p2) := (blk_cell BG.out 2).trans rfl; have x0 : w5.cell? ⟨ga, 0, none⟩ = some (.int .i64 v0) := (blk_cell BA.out 0).trans rfl; have x1 : w5.cell? ⟨ga, 1, none⟩ = some (.int .i64 v1) := (blk_cell BA.out 1).trans rfl; have x2 : w5.cell? ⟨ga, 2, none⟩ = some (.int .i64 0) := (blk_cell BA.out 2).trans rfl; have q0 := blk_frozen BA.out 0; have q1 := blk_frozen BA.out 1; have q2 := blk_frozen BA.out 2; have z0 : w5.cell? ⟨w.heap.size, 0, none⟩ = some (.int .i64 0) := (blk_cell BK.out 0).trans rfl; have z1 : w5.cell? ⟨w.heap.size, 1, none⟩ = some (.int .i64 0) := (blk_cell BK.out 1).trans rfl; have z2 : w5.cell? ⟨w.heap.size, 2, none⟩ = some (.int .i64 0) := (blk_cell BK.out 2).trans rfl; have f0 := blk_frozen BK.out 0; have f1 := blk_frozen BK.out 1; have f2 := blk_frozen BK.out 2))
  rw [rounds_succ]
  go_wp2_with (first | (go_at_call 26; (with_reducible refine (civil_Text.calls 2 v0 v1 v2 ⟨#[]⟩ (some 1) _ (Laid.below HL.out (by repeat (first | (with_reducible first | exact HB.out | apply below_alloc | apply pw_below_drewN | apply below_drew1 | refine below_set ?_ GA.out | refine below_set ?_ (Nat.le_refl _)) | exact HB.out))) hT.out).mono ?_); rintro e w6 ⟨rfl, hb⟩; (try simp only [errW_none, errW_some]); have n0_ := Aside0.mk (below_step (by repeat (first | (with_reducible first | exact HB.out | apply below_alloc | refine below_set ?_ GA.out) | exact HB.out)) hb); have n1_ := Aside0.mk (blk_below (blk_alloc (blk_far (p := ⟨ga, 2, none⟩) BK.out NKA.out (.int .i64 v2)) _) hb); have n2_ := Aside0.mk (show w6.heap[w5.heap.size]? = some (.cells #[.int .i64 v0, .int .i64 v1, .int .i64 v2] 26 (0, 0)) from by have q_ := blk_below (blk_new _ _) hb; simpa [World.setCell] using q_); clear HB BK; have HB := n0_; have BK := n1_; have BD := n2_; clear n0_ n1_ n2_; clear hb; have z0 : w6.cell? ⟨w.heap.size, 0, none⟩ = some (.int .i64 0) := (blk_cell BK.out 0).trans rfl; have z1 : w6.cell? ⟨w.heap.size, 1, none⟩ = some (.int .i64 0) := (blk_cell BK.out 1).trans rfl; have z2 : w6.cell? ⟨w.heap.size, 2, none⟩ = some (.int .i64 0) := (blk_cell BK.out 2).trans rfl; have f0 := blk_frozen BK.out 0; have f1 := blk_frozen BK.out 1; have f2 := blk_frozen BK.out 2; have d0 : w6.cell? ⟨w5.heap.size, 0, none⟩ = some (.int .i64 v0) := (blk_cell BD.out 0).trans rfl; have d1 : w6.cell? ⟨w5.heap.size, 1, none⟩ = some (.int .i64 v1) := (blk_cell BD.out 1).trans rfl; have d2 : w6.cell? ⟨w5.heap.size, 2, none⟩ = some (.int .i64 v2) := (blk_cell BD.out 2).trans rfl; have r0 := blk_frozen BD.out 0; have r1 := blk_frozen BD.out 1; have r2 := blk_frozen BD.out 2))
  refine bodyPost_ret (results_ct rfl _ _ w.heap.size 26 #[.int .i64 0, .int .i64 0, .int .i64 0] (0, 0) _ rfl (by refine blk_put (cs := #[.int .i64 0, .int .i64 0, .int .i64 0]) ?_ 2 _ rfl; refine blk_put (cs := #[.int .i64 0, .int .i64 0, .int .i64 0]) ?_ 1 _ rfl; refine blk_put (cs := #[.int .i64 0, .int .i64 0, .int .i64 0]) ?_ 0 _ rfl; exact BK.out) Tryz.underlying26 rfl (by kernel_rfl)) rfl ?_
  exact ⟨rfl, by repeat (first | exact HB.out | refine below_set ?_ (Nat.le_refl _))⟩

set_option maxHeartbeats 8000000 in
set_option maxRecDepth 100000 in
theorem parse_ne (s : ByteArray) (w : World) (hl : Laid w) (hs : s.size < 4294967281) (p0 p1 p2 : ByteArray) (h : Lib.splitB ⟨#[45]⟩ 0 (Lib.countB s ⟨#[45]⟩) s = [p0, p1, p2]) (h0s : p0.size ≤ 4294967280) (h1s : p1.size ≤ 4294967280) (h2s : p2.size ≤ 4294967280) (v0 : Int) (h0 : Lib.atoiAll p0.data.toList = .ok v0) (v1 : Int) (h1 : Lib.atoiAll p1.data.toList = .ok v1) (v2 : Int) (h2 : Lib.atoiAll p2.data.toList = .ok v2) (v : vld v0 v1 v2) (hq : (dtext v0 v1 v2 == s.toList) = false) :
    Calls Tryz.prog 27 #[.string s] w (Parsed w.heap.size w 0 0 0 (some 3)) := by
  have H := Lib.hid h
  clear h
  have n_ := Lib.hid h0
  clear h0
  have h0 := n_
  clear n_
  have n_ := Lib.hid h1
  clear h1
  have h1 := n_
  clear n_
  have n_ := Lib.hid h2
  clear h2
  have h2 := n_
  clear n_
  have hT := Aside0.mk (show civil_Text.f 2 v0 v1 v2 = some (⟨(dtext v0 v1 v2).toArray⟩, none) by rw [CivP.text 2 _ _ _ (by omega), if_pos v])
  clear v
  have HB := Aside0.mk (Below.refl w.heap.size w)
  have HL := Aside0.mk hl
  clear hl
  go_enter Tryz.func27, Tryz.ntmps27
  go_wp2_with (first | (go_at_call 96; (refine (split_3 s hs p0 p1 p2 H.out _ (Laid.below HL.out (by repeat (first | (with_reducible first | exact HB.out | apply below_alloc | apply pw_below_drewN | apply below_drew1 | refine below_set ?_ GA.out | refine below_set ?_ (Nat.le_refl _)) | exact HB.out)))).mono ?_); rintro e w1 ⟨g, rfl, hg, hc, hb⟩; have BG := Aside0.mk hc; have BK := Aside0.mk (blk_below (blk_new w _) hb); have n0_ := Aside0.mk (below_step (below_alloc HB.out _) hb); clear HB; have HB := n0_; clear n0_; clear hb hc hg; have z0 : w1.cell? ⟨w.heap.size, 0, none⟩ = some (.int .i64 0) := (blk_cell BK.out 0).trans rfl; have z1 : w1.cell? ⟨w.heap.size, 1, none⟩ = some (.int .i64 0) := (blk_cell BK.out 1).trans rfl; have z2 : w1.cell? ⟨w.heap.size, 2, none⟩ = some (.int .i64 0) := (blk_cell BK.out 2).trans rfl; have f0 := blk_frozen BK.out 0; have f1 := blk_frozen BK.out 1; have f2 := blk_frozen BK.out 2) | ((with_reducible refine gate_dst (N := 5) rfl ?_); refine box_event ?hg (N := 5) ?hd (cs := #[.int .i64 0, .int .i64 0, .int .i64 0]) (t := 164) ?hr ?_; (case hd => rfl); (case hg => rfl); (case hr => first | (go_simp; done) | (go_simp; rfl)); intro ga hga w2 hbox hb2; have GA := Aside0.mk (show w.heap.size ≤ ga by rw [hga]; exact below_size HB.out); have n0_ := Aside0.mk (below_step HB.out hb2); have n1_ := Aside0.mk (blk_below BK.out hb2); have n2_ := Aside0.mk (blk_below BG.out hb2); have BA := Aside0.mk hbox; clear HB BK BG z0 z1 z2 f0 f1 f2; have HB := n0_; have BK := n1_; have BG := n2_; clear n0_ n1_ n2_; clear hb2 hbox hga; have NKA := Aside0.mk (blk_ne BK.out BA.out (by decide)); have NGA := Aside0.mk (blk_ne BG.out BA.out (by decide)); have y0 : w2.cell? ⟨g, 0, none⟩ = some (.string p0) := (blk_cell BG.out 0).trans rfl; have y1 : w2.cell? ⟨g, 1, none⟩ = some (.string p1) := (blk_cell BG.out 1).trans rfl; have y2 : w2.cell? ⟨g, 2, none⟩ = some (.string p2) := (blk_cell BG.out 2).trans rfl; have x0 : w2.cell? ⟨ga, 0, none⟩ = some (.int .i64 0) := (blk_cell BA.out 0).trans rfl; have x1 : w2.cell? ⟨ga, 1, none⟩ = some (.int .i64 0) := (blk_cell BA.out 1).trans rfl; have x2 : w2.cell? ⟨ga, 2, none⟩ = some (.int .i64 0) := (blk_cell BA.out 2).trans rfl; have q0 := blk_frozen BA.out 0; have q1 := blk_frozen BA.out 1; have q2 := blk_frozen BA.out 2))
  refine wp_loop_rounds 4 ?_
  rw [rounds_succ]
  go_wp2_with (first | (go_at_call 97; (with_reducible refine (atoi_ok p0 h0s v0 h0.out _).mono ?_); rintro e w3 ⟨rfl, hb⟩; have n0_ := Aside0.mk (below_step HB.out hb); have n1_ := Aside0.mk (blk_below BK.out hb); have n2_ := Aside0.mk (blk_below BG.out hb); have n3_ := Aside0.mk (blk_below BA.out hb); clear HB BK BG BA y0 y1 y2 x0 x1 x2 q0 q1 q2; have HB := n0_; have BK := n1_; have BG := n2_; have BA := n3_; clear n0_ n1_ n2_ n3_; clear hb; have y0 : w3.cell? ⟨g, 0, none⟩ = some (.string p0) := (blk_cell BG.out 0).trans rfl; have y1 : w3.cell? ⟨g, 1, none⟩ = some (.string p1) := (blk_cell BG.out 1).trans rfl; have y2 : w3.cell? ⟨g, 2, none⟩ = some (.string p2) := (blk_cell BG.out 2).trans rfl; have x0 : w3.cell? ⟨ga, 0, none⟩ = some (.int .i64 0) := (blk_cell BA.out 0).trans rfl; have x1 : w3.cell? ⟨ga, 1, none⟩ = some (.int .i64 0) := (blk_cell BA.out 1).trans rfl; have x2 : w3.cell? ⟨ga, 2, none⟩ = some (.int .i64 0) := (blk_cell BA.out 2).trans rfl; have q0 := blk_frozen BA.out 0; have q1 := blk_frozen BA.out 1; have q2 := blk_frozen BA.out 2; have z0 : w3.cell? ⟨w.heap.size, 0, none⟩ = some (.int .i64 0) := (blk_cell BK.out 0).trans rfl; have z1 : w3.cell? ⟨w.heap.size, 1, none⟩ = some (.int .i64 0) := (blk_cell BK.out 1).trans rfl; have z2 : w3.cell? ⟨w.heap.size, 2, none⟩ = some (.int .i64 0) := (blk_cell BK.out 2).trans rfl; have f0 := blk_frozen BK.out 0; have f1 := blk_frozen BK.out 1; have f2 := blk_frozen BK.out 2))
  rw [rounds_succ]
  go_wp2_with (first | (go_at_call 97; (with_reducible refine (atoi_ok p1 h1s v1 h1.out _).mono ?_); rintro e w4 ⟨rfl, hb⟩; have n0_ := Aside0.mk (below_step (below_set HB.out GA.out) hb); have n1_ := Aside0.mk (blk_below (blk_far BK.out NKA.out _) hb); have n2_ := Aside0.mk (blk_below (blk_far BG.out NGA.out _) hb); have n3_ := Aside0.mk (blk_below (blk_put (cs' := #[.int .i64 v0, .int .i64 0, .int .i64 0]) BA.out 0 (.int .i64 v0) rfl) hb); clear HB BK BG BA y0 y1 y2 x0 x1 x2 q0 q1 q2; have HB := n0_; have BK := n1_; have BG := n2_; have BA := n3_; clear n0_ n1_ n2_ n3_; clear hb; have y0 : w4.cell? ⟨g, 0, none⟩ = some (.string p0) := (blk_cell BG.out 0).trans rfl; have y1 : w4.cell? ⟨g, 1, none⟩ = some (.string p1) := (blk_cell BG.out 1).trans rfl; have y2 : w4.cell? ⟨g, 2, none⟩ = some (.string p2) := (blk_cell BG.out 2).trans rfl; have x0 : w4.cell? ⟨ga, 0, none⟩ = some (.int .i64 v0) := (blk_cell BA.out 0).trans rfl; have x1 : w4.cell? ⟨ga, 1, none⟩ = some (.int .i64 0) := (blk_cell BA.out 1).trans rfl; have x2 : w4.cell? ⟨ga, 2, none⟩ = some (.int .i64 0) := (blk_cell BA.out 2).trans rfl; have q0 := blk_frozen BA.out 0; have q1 := blk_frozen BA.out 1; have q2 := blk_frozen BA.out 2; have z0 : w4.cell? ⟨w.heap.size, 0, none⟩ = some (.int .i64 0) := (blk_cell BK.out 0).trans rfl; have z1 : w4.cell? ⟨w.heap.size, 1, none⟩ = some (.int .i64 0) := (blk_cell BK.out 1).trans rfl; have z2 : w4.cell? ⟨w.heap.size, 2, none⟩ = some (.int .i64 0) := (blk_cell BK.out 2).trans rfl; have f0 := blk_frozen BK.out 0; have f1 := blk_frozen BK.out 1; have f2 := blk_frozen BK.out 2))
  rw [rounds_succ]
  go_wp2_with (first | (go_at_call 97; (with_reducible refine (atoi_ok p2 h2s v2 h2.out _).mono ?_); rintro e w5 ⟨rfl, hb⟩; have n0_ := Aside0.mk (below_step (below_set HB.out GA.out) hb); have n1_ := Aside0.mk (blk_below (blk_far BK.out NKA.out _) hb); have n2_ := Aside0.mk (blk_below (blk_far BG.out NGA.out _) hb); have n3_ := Aside0.mk (blk_below (blk_put (cs' := #[.int .i64 v0, .int .i64 v1, .int .i64 0]) BA.out 1 (.int .i64 v1) rfl) hb); clear HB BK BG BA y0 y1 y2 x0 x1 x2 q0 q1 q2; have HB := n0_; have BK := n1_; have BG := n2_; have BA := n3_; clear n0_ n1_ n2_ n3_; clear hb; have y0 : w5.cell? ⟨g, 0, none⟩ = some (.string p0) := (blk_cell BG.out 0).trans rfl; have y1 : w5.cell? ⟨g, 1, none⟩ = some (.string p1) := (blk_cell BG.out 1).trans rfl; have y2 : w5.cell? ⟨g, 2, none⟩ = some (.string p2) := (blk_cell BG.out 2).trans rfl; have x0 : w5.cell? ⟨ga, 0, none⟩ = some (.int .i64 v0) := (blk_cell BA.out 0).trans rfl; have x1 : w5.cell? ⟨ga, 1, none⟩ = some (.int .i64 v1) := (blk_cell BA.out 1).trans rfl; have x2 : w5.cell? ⟨ga, 2, none⟩ = some (.int .i64 0) := (blk_cell BA.out 2).trans rfl; have q0 := blk_frozen BA.out 0; have q1 := blk_frozen BA.out 1; have q2 := blk_frozen BA.out 2; have z0 : w5.cell? ⟨w.heap.size, 0, none⟩ = some (.int .i64 0) := (blk_cell BK.out 0).trans rfl; have z1 : w5.cell? ⟨w.heap.size, 1, none⟩ = some (.int .i64 0) := (blk_cell BK.out 1).trans rfl; have z2 : w5.cell? ⟨w.heap.size, 2, none⟩ = some (.int .i64 0) := (blk_cell BK.out 2).trans rfl; have f0 := blk_frozen BK.out 0; have f1 := blk_frozen BK.out 1; have f2 := blk_frozen BK.out 2))
  rw [rounds_succ]
  go_wp2_with (first | (go_at_call 26; (with_reducible refine (civil_Text.calls 2 v0 v1 v2 ⟨(dtext v0 v1 v2).toArray⟩ none _ (Laid.below HL.out (by repeat (first | (with_reducible first | exact HB.out | apply below_alloc | apply pw_below_drewN | apply below_drew1 | refine below_set ?_ GA.out | refine below_set ?_ (Nat.le_refl _)) | exact HB.out))) hT.out).mono ?_); rintro e w6 ⟨rfl, hb⟩; (try simp only [errW_none, errW_some]); have n0_ := Aside0.mk (below_step (by repeat (first | (with_reducible first | exact HB.out | apply below_alloc | refine below_set ?_ GA.out) | exact HB.out)) hb); have n1_ := Aside0.mk (blk_below (blk_alloc (blk_far (p := ⟨ga, 2, none⟩) BK.out NKA.out (.int .i64 v2)) _) hb); have n2_ := Aside0.mk (show w6.heap[w5.heap.size]? = some (.cells #[.int .i64 v0, .int .i64 v1, .int .i64 v2] 26 (0, 0)) from by have q_ := blk_below (blk_new _ _) hb; simpa [World.setCell] using q_); clear HB BK; have HB := n0_; have BK := n1_; have BD := n2_; clear n0_ n1_ n2_; clear hb; have z0 : w6.cell? ⟨w.heap.size, 0, none⟩ = some (.int .i64 0) := (blk_cell BK.out 0).trans rfl; have z1 : w6.cell? ⟨w.heap.size, 1, none⟩ = some (.int .i64 0) := (blk_cell BK.out 1).trans rfl; have z2 : w6.cell? ⟨w.heap.size, 2, none⟩ = some (.int .i64 0) := (blk_cell BK.out 2).trans rfl; have f0 := blk_frozen BK.out 0; have f1 := blk_frozen BK.out 1; have f2 := blk_frozen BK.out 2; have d0 : w6.cell? ⟨w5.heap.size, 0, none⟩ = some (.int .i64 v0) := (blk_cell BD.out 0).trans rfl; have d1 : w6.cell? ⟨w5.heap.size, 1, none⟩ = some (.int .i64 v1) := (blk_cell BD.out 1).trans rfl; have d2 : w6.cell? ⟨w5.heap.size, 2, none⟩ = some (.int .i64 v2) := (blk_cell BD.out 2).trans rfl; have r0 := blk_frozen BD.out 0; have r1 := blk_frozen BD.out 1; have r2 := blk_frozen BD.out 2))
  refine bodyPost_ret (results_ct rfl _ _ w.heap.size 26 #[.int .i64 0, .int .i64 0, .int .i64 0] (0, 0) _ rfl (by refine blk_put (cs := #[.int .i64 0, .int .i64 0, .int .i64 0]) ?_ 2 _ rfl; refine blk_put (cs := #[.int .i64 0, .int .i64 0, .int .i64 0]) ?_ 1 _ rfl; refine blk_put (cs := #[.int .i64 0, .int .i64 0, .int .i64 0]) ?_ 0 _ rfl; exact BK.out) Tryz.underlying26 rfl (by kernel_rfl)) rfl ?_
  exact ⟨rfl, by repeat (first | exact HB.out | refine below_set ?_ (Nat.le_refl _))⟩

set_option maxHeartbeats 8000000 in
set_option maxRecDepth 100000 in
theorem parse_eq (s : ByteArray) (w : World) (hl : Laid w) (hs : s.size < 4294967281) (p0 p1 p2 : ByteArray) (h : Lib.splitB ⟨#[45]⟩ 0 (Lib.countB s ⟨#[45]⟩) s = [p0, p1, p2]) (h0s : p0.size ≤ 4294967280) (h1s : p1.size ≤ 4294967280) (h2s : p2.size ≤ 4294967280) (v0 : Int) (h0 : Lib.atoiAll p0.data.toList = .ok v0) (v1 : Int) (h1 : Lib.atoiAll p1.data.toList = .ok v1) (v2 : Int) (h2 : Lib.atoiAll p2.data.toList = .ok v2) (v : vld v0 v1 v2) (hq : (dtext v0 v1 v2 == s.toList) = true) :
    Calls Tryz.prog 27 #[.string s] w (Parsed w.heap.size w v0 v1 v2 none) := by
  have H := Lib.hid h
  clear h
  have n_ := Lib.hid h0
  clear h0
  have h0 := n_
  clear n_
  have n_ := Lib.hid h1
  clear h1
  have h1 := n_
  clear n_
  have n_ := Lib.hid h2
  clear h2
  have h2 := n_
  clear n_
  have hT := Aside0.mk (show civil_Text.f 2 v0 v1 v2 = some (⟨(dtext v0 v1 v2).toArray⟩, none) by rw [CivP.text 2 _ _ _ (by omega), if_pos v])
  clear v
  have HB := Aside0.mk (Below.refl w.heap.size w)
  have HL := Aside0.mk hl
  clear hl
  go_enter Tryz.func27, Tryz.ntmps27
  go_wp2_with (first | (go_at_call 96; (refine (split_3 s hs p0 p1 p2 H.out _ (Laid.below HL.out (by repeat (first | (with_reducible first | exact HB.out | apply below_alloc | apply pw_below_drewN | apply below_drew1 | refine below_set ?_ GA.out | refine below_set ?_ (Nat.le_refl _)) | exact HB.out)))).mono ?_); rintro e w1 ⟨g, rfl, hg, hc, hb⟩; have BG := Aside0.mk hc; have BK := Aside0.mk (blk_below (blk_new w _) hb); have n0_ := Aside0.mk (below_step (below_alloc HB.out _) hb); clear HB; have HB := n0_; clear n0_; clear hb hc hg; have z0 : w1.cell? ⟨w.heap.size, 0, none⟩ = some (.int .i64 0) := (blk_cell BK.out 0).trans rfl; have z1 : w1.cell? ⟨w.heap.size, 1, none⟩ = some (.int .i64 0) := (blk_cell BK.out 1).trans rfl; have z2 : w1.cell? ⟨w.heap.size, 2, none⟩ = some (.int .i64 0) := (blk_cell BK.out 2).trans rfl; have f0 := blk_frozen BK.out 0; have f1 := blk_frozen BK.out 1; have f2 := blk_frozen BK.out 2) | ((with_reducible refine gate_dst (N := 5) rfl ?_); refine box_event ?hg (N := 5) ?hd (cs := #[.int .i64 0, .int .i64 0, .int .i64 0]) (t := 164) ?hr ?_; (case hd => rfl); (case hg => rfl); (case hr => first | (go_simp; done) | (go_simp; rfl)); intro ga hga w2 hbox hb2; have GA := Aside0.mk (show w.heap.size ≤ ga by rw [hga]; exact below_size HB.out); have n0_ := Aside0.mk (below_step HB.out hb2); have n1_ := Aside0.mk (blk_below BK.out hb2); have n2_ := Aside0.mk (blk_below BG.out hb2); have BA := Aside0.mk hbox; clear HB BK BG z0 z1 z2 f0 f1 f2; have HB := n0_; have BK := n1_; have BG := n2_; clear n0_ n1_ n2_; clear hb2 hbox hga; have NKA := Aside0.mk (blk_ne BK.out BA.out (by decide)); have NGA := Aside0.mk (blk_ne BG.out BA.out (by decide)); have y0 : w2.cell? ⟨g, 0, none⟩ = some (.string p0) := (blk_cell BG.out 0).trans rfl; have y1 : w2.cell? ⟨g, 1, none⟩ = some (.string p1) := (blk_cell BG.out 1).trans rfl; have y2 : w2.cell? ⟨g, 2, none⟩ = some (.string p2) := (blk_cell BG.out 2).trans rfl; have x0 : w2.cell? ⟨ga, 0, none⟩ = some (.int .i64 0) := (blk_cell BA.out 0).trans rfl; have x1 : w2.cell? ⟨ga, 1, none⟩ = some (.int .i64 0) := (blk_cell BA.out 1).trans rfl; have x2 : w2.cell? ⟨ga, 2, none⟩ = some (.int .i64 0) := (blk_cell BA.out 2).trans rfl; have q0 := blk_frozen BA.out 0; have q1 := blk_frozen BA.out 1; have q2 := blk_frozen BA.out 2))
  refine wp_loop_rounds 4 ?_
  rw [rounds_succ]
  go_wp2_with (first | (go_at_call 97; (with_reducible refine (atoi_ok p0 h0s v0 h0.out _).mono ?_); rintro e w3 ⟨rfl, hb⟩; have n0_ := Aside0.mk (below_step HB.out hb); have n1_ := Aside0.mk (blk_below BK.out hb); have n2_ := Aside0.mk (blk_below BG.out hb); have n3_ := Aside0.mk (blk_below BA.out hb); clear HB BK BG BA y0 y1 y2 x0 x1 x2 q0 q1 q2; have HB := n0_; have BK := n1_; have BG := n2_; have BA := n3_; clear n0_ n1_ n2_ n3_; clear hb; have y0 : w3.cell? ⟨g, 0, none⟩ = some (.string p0) := (blk_cell BG.out 0).trans rfl; have y1 : w3.cell? ⟨g, 1, none⟩ = some (.string p1) := (blk_cell BG.out 1).trans rfl; have y2 : w3.cell? ⟨g, 2, none⟩ = some (.string p2) := (blk_cell BG.out 2).trans rfl; have x0 : w3.cell? ⟨ga, 0, none⟩ = some (.int .i64 0) := (blk_cell BA.out 0).trans rfl; have x1 : w3.cell? ⟨ga, 1, none⟩ = some (.int .i64 0) := (blk_cell BA.out 1).trans rfl; have x2 : w3.cell? ⟨ga, 2, none⟩ = some (.int .i64 0) := (blk_cell BA.out 2).trans rfl; have q0 := blk_frozen BA.out 0; have q1 := blk_frozen BA.out 1; have q2 := blk_frozen BA.out 2; have z0 : w3.cell? ⟨w.heap.size, 0, none⟩ = some (.int .i64 0) := (blk_cell BK.out 0).trans rfl; have z1 : w3.cell? ⟨w.heap.size, 1, none⟩ = some (.int .i64 0) := (blk_cell BK.out 1).trans rfl; have z2 : w3.cell? ⟨w.heap.size, 2, none⟩ = some (.int .i64 0) := (blk_cell BK.out 2).trans rfl; have f0 := blk_frozen BK.out 0; have f1 := blk_frozen BK.out 1; have f2 := blk_frozen BK.out 2))
  rw [rounds_succ]
  go_wp2_with (first | (go_at_call 97; (with_reducible refine (atoi_ok p1 h1s v1 h1.out _).mono ?_); rintro e w4 ⟨rfl, hb⟩; have n0_ := Aside0.mk (below_step (below_set HB.out GA.out) hb); have n1_ := Aside0.mk (blk_below (blk_far BK.out NKA.out _) hb); have n2_ := Aside0.mk (blk_below (blk_far BG.out NGA.out _) hb); have n3_ := Aside0.mk (blk_below (blk_put (cs' := #[.int .i64 v0, .int .i64 0, .int .i64 0]) BA.out 0 (.int .i64 v0) rfl) hb); clear HB BK BG BA y0 y1 y2 x0 x1 x2 q0 q1 q2; have HB := n0_; have BK := n1_; have BG := n2_; have BA := n3_; clear n0_ n1_ n2_ n3_; clear hb; have y0 : w4.cell? ⟨g, 0, none⟩ = some (.string p0) := (blk_cell BG.out 0).trans rfl; have y1 : w4.cell? ⟨g, 1, none⟩ = some (.string p1) := (blk_cell BG.out 1).trans rfl; have y2 : w4.cell? ⟨g, 2, none⟩ = some (.string p2) := (blk_cell BG.out 2).trans rfl; have x0 : w4.cell? ⟨ga, 0, none⟩ = some (.int .i64 v0) := (blk_cell BA.out 0).trans rfl; have x1 : w4.cell? ⟨ga, 1, none⟩ = some (.int .i64 0) := (blk_cell BA.out 1).trans rfl; have x2 : w4.cell? ⟨ga, 2, none⟩ = some (.int .i64 0) := (blk_cell BA.out 2).trans rfl; have q0 := blk_frozen BA.out 0; have q1 := blk_frozen BA.out 1; have q2 := blk_frozen BA.out 2; have z0 : w4.cell? ⟨w.heap.size, 0, none⟩ = some (.int .i64 0) := (blk_cell BK.out 0).trans rfl; have z1 : w4.cell? ⟨w.heap.size, 1, none⟩ = some (.int .i64 0) := (blk_cell BK.out 1).trans rfl; have z2 : w4.cell? ⟨w.heap.size, 2, none⟩ = some (.int .i64 0) := (blk_cell BK.out 2).trans rfl; have f0 := blk_frozen BK.out 0; have f1 := blk_frozen BK.out 1; have f2 := blk_frozen BK.out 2))
  rw [rounds_succ]
  go_wp2_with (first | (go_at_call 97; (with_reducible refine (atoi_ok p2 h2s v2 h2.out _).mono ?_); rintro e w5 ⟨rfl, hb⟩; have n0_ := Aside0.mk (below_step (below_set HB.out GA.out) hb); have n1_ := Aside0.mk (blk_below (blk_far BK.out NKA.out _) hb); have n2_ := Aside0.mk (blk_below (blk_far BG.out NGA.out _) hb); have n3_ := Aside0.mk (blk_below (blk_put (cs' := #[.int .i64 v0, .int .i64 v1, .int .i64 0]) BA.out 1 (.int .i64 v1) rfl) hb); clear HB BK BG BA y0 y1 y2 x0 x1 x2 q0 q1 q2; have HB := n0_; have BK := n1_; have BG := n2_; have BA := n3_; clear n0_ n1_ n2_ n3_; clear hb; have y0 : w5.cell? ⟨g, 0, none⟩ = some (.string p0) := (blk_cell BG.out 0).trans rfl; have y1 : w5.cell? ⟨g, 1, none⟩ = some (.string p1) := (blk_cell BG.out 1).trans rfl; have y2 : w5.cell? ⟨g, 2, none⟩ = some (.string p2) := (blk_cell BG.out 2).trans rfl; have x0 : w5.cell? ⟨ga, 0, none⟩ = some (.int .i64 v0) := (blk_cell BA.out 0).trans rfl; have x1 : w5.cell? ⟨ga, 1, none⟩ = some (.int .i64 v1) := (blk_cell BA.out 1).trans rfl; have x2 : w5.cell? ⟨ga, 2, none⟩ = some (.int .i64 0) := (blk_cell BA.out 2).trans rfl; have q0 := blk_frozen BA.out 0; have q1 := blk_frozen BA.out 1; have q2 := blk_frozen BA.out 2; have z0 : w5.cell? ⟨w.heap.size, 0, none⟩ = some (.int .i64 0) := (blk_cell BK.out 0).trans rfl; have z1 : w5.cell? ⟨w.heap.size, 1, none⟩ = some (.int .i64 0) := (blk_cell BK.out 1).trans rfl; have z2 : w5.cell? ⟨w.heap.size, 2, none⟩ = some (.int .i64 0) := (blk_cell BK.out 2).trans rfl; have f0 := blk_frozen BK.out 0; have f1 := blk_frozen BK.out 1; have f2 := blk_frozen BK.out 2))
  rw [rounds_succ]
  go_wp2_with (first | (go_at_call 26; (with_reducible refine (civil_Text.calls 2 v0 v1 v2 ⟨(dtext v0 v1 v2).toArray⟩ none _ (Laid.below HL.out (by repeat (first | (with_reducible first | exact HB.out | apply below_alloc | apply pw_below_drewN | apply below_drew1 | refine below_set ?_ GA.out | refine below_set ?_ (Nat.le_refl _)) | exact HB.out))) hT.out).mono ?_); rintro e w6 ⟨rfl, hb⟩; (try simp only [errW_none, errW_some]); have n0_ := Aside0.mk (below_step (by repeat (first | (with_reducible first | exact HB.out | apply below_alloc | refine below_set ?_ GA.out) | exact HB.out)) hb); have n1_ := Aside0.mk (blk_below (blk_alloc (blk_far (p := ⟨ga, 2, none⟩) BK.out NKA.out (.int .i64 v2)) _) hb); have n2_ := Aside0.mk (show w6.heap[w5.heap.size]? = some (.cells #[.int .i64 v0, .int .i64 v1, .int .i64 v2] 26 (0, 0)) from by have q_ := blk_below (blk_new _ _) hb; simpa [World.setCell] using q_); clear HB BK; have HB := n0_; have BK := n1_; have BD := n2_; clear n0_ n1_ n2_; clear hb; have z0 : w6.cell? ⟨w.heap.size, 0, none⟩ = some (.int .i64 0) := (blk_cell BK.out 0).trans rfl; have z1 : w6.cell? ⟨w.heap.size, 1, none⟩ = some (.int .i64 0) := (blk_cell BK.out 1).trans rfl; have z2 : w6.cell? ⟨w.heap.size, 2, none⟩ = some (.int .i64 0) := (blk_cell BK.out 2).trans rfl; have f0 := blk_frozen BK.out 0; have f1 := blk_frozen BK.out 1; have f2 := blk_frozen BK.out 2; have d0 : w6.cell? ⟨w5.heap.size, 0, none⟩ = some (.int .i64 v0) := (blk_cell BD.out 0).trans rfl; have d1 : w6.cell? ⟨w5.heap.size, 1, none⟩ = some (.int .i64 v1) := (blk_cell BD.out 1).trans rfl; have d2 : w6.cell? ⟨w5.heap.size, 2, none⟩ = some (.int .i64 v2) := (blk_cell BD.out 2).trans rfl; have r0 := blk_frozen BD.out 0; have r1 := blk_frozen BD.out 1; have r2 := blk_frozen BD.out 2))
  refine bodyPost_ret (results_ct rfl _ _ w.heap.size 26 #[.int .i64 v0, .int .i64 v1, .int .i64 v2] (0, 0) _ rfl (by refine blk_put (cs := #[.int .i64 v0, .int .i64 v1, .int .i64 0]) ?_ 2 _ rfl; refine blk_put (cs := #[.int .i64 v0, .int .i64 0, .int .i64 0]) ?_ 1 _ rfl; refine blk_put (cs := #[.int .i64 0, .int .i64 0, .int .i64 0]) ?_ 0 _ rfl; exact BK.out) Tryz.underlying26 rfl (by kernel_rfl)) rfl ?_
  exact ⟨rfl, by repeat (first | exact HB.out | refine below_set ?_ (Nat.le_refl _))⟩

theorem extract_le (s : ByteArray) (a b : Nat) : (s.extract a b).size ≤ s.size := by rw [ByteArray.size_extract]; omega
theorem splitB_size (sep : ByteArray) : ∀ (k : Nat) (s p : ByteArray), p ∈ Lib.splitB sep 0 k s → p.size ≤ s.size
  | 0, s, p, h => by simp [Lib.splitB] at h; rw [h]; exact Nat.le_refl _
  | k + 1, s, p, h => by
    unfold Lib.splitB at h
    split at h
    · simp at h; rw [h]; exact Nat.le_refl _
    · rcases List.mem_cons.1 h with rfl | h
      · exact extract_le _ _ _
      · exact Nat.le_trans (splitB_size sep k _ p h) (extract_le _ _ _)
theorem civil_Parse.calls (a0 : ByteArray) (r1 r2 r3 : Int) (r4 : Option Int) (w : World) (hl_ : Laid w) (h : civil_Parse.f a0 = some (r1, r2, r3, r4)) :
    Calls Tryz.prog 27 #[.string a0] w fun e w' => e = .returned (.tuple #[.agg #[.int .i64 r1, .int .i64 r2, .int .i64 r3], errW r4]) ∧ Below w.heap.size w w' := by
  unfold civil_Parse.f at h
  split at h
  rotate_left
  · cases h
  rename_i hs
  obtain ⟨l, hsp⟩ : ∃ l, Lib.splitB ⟨#[45]⟩ 0 (Lib.countB a0 ⟨#[45]⟩) a0 = l := ⟨_, rfl⟩
  have hC := splitB_eq 45 a0
  rw [hsp] at hC
  have none_of : dateOf a0.data.toList = none → some (0, 0, 0, some 3) = some (r1, r2, r3, r4) := fun e => by rw [e] at h; exact h
  by_cases hn : l.length = 3
  rotate_left
  · have hd : dateOf a0.data.toList = none := by
      cases hd : dateOf a0.data.toList with
      | none => rfl
      | some t =>
        obtain ⟨y, m, d⟩ := t
        obtain ⟨_, _, p0, p1, p2, e, _⟩ := dateOf_some hd
        rw [e] at hC
        have := congrArg List.length hC
        simp at this; omega
    have e := none_of hd
    simp only [Option.some.injEq, Prod.mk.injEq] at e
    obtain ⟨rfl, rfl, rfl, rfl⟩ := e
    exact parse_len a0 w hl_ hs l hsp (by simp; omega)
  · match l, hn with
    | [p0, p1, p2], _ =>
      have hz : ∀ p ∈ [p0, p1, p2], p.size ≤ 4294967280 := fun p hp => by
        have := splitB_size ⟨#[45]⟩ _ a0 p (by rw [hsp]; exact hp)
        omega
      have z0 := hz p0 (by simp)
      have z1 := hz p1 (by simp)
      have z2 := hz p2 (by simp)
      simp only [List.map_cons, List.map_nil] at hC
      have bad : (∀ y m d, ¬ (Lib.atoiAll p0.data.toList = .ok y ∧ Lib.atoiAll p1.data.toList = .ok m ∧ Lib.atoiAll p2.data.toList = .ok d)) → r1 = 0 ∧ r2 = 0 ∧ r3 = 0 ∧ r4 = some 3 := by
        intro hno
        have hd : dateOf a0.data.toList = none := by
          cases hd : dateOf a0.data.toList with
          | none => rfl
          | some t =>
            obtain ⟨y, m, d⟩ := t
            obtain ⟨_, _, q0, q1, q2, e, a1, a2, a3⟩ := dateOf_some hd
            rw [e] at hC
            simp only [List.cons.injEq, and_true] at hC
            obtain ⟨rfl, rfl, rfl⟩ := hC
            exact absurd ⟨a1, a2, a3⟩ (hno y m d)
        have e := none_of hd
        simp only [Option.some.injEq, Prod.mk.injEq] at e
        obtain ⟨rfl, rfl, rfl, rfl⟩ := e
        exact ⟨rfl, rfl, rfl, rfl⟩
      by_cases c0 : ∃ v, Lib.atoiAll p0.data.toList = .ok v
      rotate_left
      · obtain ⟨rfl, rfl, rfl, rfl⟩ := bad (fun y m d e => c0 ⟨y, e.1⟩)
        exact parse_bad0 a0 w hl_ hs p0 p1 p2 hsp z0 z1 z2 (fun v e => c0 ⟨v, e⟩)
      obtain ⟨v0, h0⟩ := c0
      by_cases c1 : ∃ v, Lib.atoiAll p1.data.toList = .ok v
      rotate_left
      · obtain ⟨rfl, rfl, rfl, rfl⟩ := bad (fun y m d e => c1 ⟨m, e.2.1⟩)
        exact parse_bad1 a0 w hl_ hs p0 p1 p2 hsp z0 z1 z2 v0 h0 (fun v e => c1 ⟨v, e⟩)
      obtain ⟨v1, h1⟩ := c1
      by_cases c2 : ∃ v, Lib.atoiAll p2.data.toList = .ok v
      rotate_left
      · obtain ⟨rfl, rfl, rfl, rfl⟩ := bad (fun y m d e => c2 ⟨d, e.2.2⟩)
        exact parse_bad2 a0 w hl_ hs p0 p1 p2 hsp z0 z1 z2 v0 h0 v1 h1 (fun v e => c2 ⟨v, e⟩)
      obtain ⟨v2, h2⟩ := c2
      have hd := dateOf_iff hC.symm h0 h1 h2
      have hS : a0.toList = a0.data.toList := ByteArray.toList_eq a0
      by_cases v : vld v0 v1 v2
      rotate_left
      · rw [if_neg (fun c => v c.1)] at hd
        have e := none_of hd
        simp only [Option.some.injEq, Prod.mk.injEq] at e
        obtain ⟨rfl, rfl, rfl, rfl⟩ := e
        exact parse_inv a0 w hl_ hs p0 p1 p2 hsp z0 z1 z2 v0 h0 v1 h1 v2 h2 v
      by_cases q : dtext v0 v1 v2 = a0.data.toList
      · rw [if_pos ⟨v, q⟩] at hd
        rw [hd] at h
        simp only [Option.some.injEq, Prod.mk.injEq] at h
        obtain ⟨rfl, rfl, rfl, rfl⟩ := h
        exact parse_eq a0 w hl_ hs p0 p1 p2 hsp z0 z1 z2 v0 h0 v1 h1 v2 h2 v (by rw [hS, q]; simp)
      · rw [if_neg (fun c => q c.2)] at hd
        have e := none_of hd
        simp only [Option.some.injEq, Prod.mk.injEq] at e
        obtain ⟨rfl, rfl, rfl, rfl⟩ := e
        exact parse_ne a0 w hl_ hs p0 p1 p2 hsp z0 z1 z2 v0 h0 v1 h1 v2 h2 v (by rw [hS]; simpa using q)
end Go.Proofs.YtfjifhkgifefeaaGreatDoor.Giv
end

section
namespace Go.Proofs.YtfjifhkgifefeaaGreatDoor.PA
open Go.Proofs.YtfjifhkgifefeaaGreatDoor.Giv Go.RowKit Go.Proofs.YtfjifhkgifefeaaGreatDoorW.PrintWords Go.Proofs.YtfjifhkgifefeaaGreatDoorW.PrintLast Go.Proofs.YtfjifhkgifefeaaGreatDoorW.PrintMore
attribute [local go_sem] max2_int min2_int max_two min_two max_three min_three max_four min_four   -- for this text's walks alone
set_option linter.unusedVariables false
set_option linter.unusedSimpArgs false

/-! ### daytime_Parse: function 41 -/
def daytime_Parse.f (k : Nat) (a0 : ByteArray) : Option (Int × Int × Int × Option Int) := if (a0.size : Int) = 29 then (if 0 ≤ 10 then (if 10 ≤ (a0.size : Int) then ((civil_Parse.f (a0.extract 0 10)).bind fun bt272 => (if bt272.2.2.2.isNone = true then ((civil_Days.f k bt272.1 bt272.2.1 bt272.2.2.1).bind fun bt278 => (if bt278.2.isNone = true then (if 11 ≤ 13 then (if 13 ≤ (a0.size : Int) then ((daytime_number.f (a0.extract 11 13)).bind fun t281 => (if 14 ≤ 16 then (if 16 ≤ (a0.size : Int) then ((daytime_number.f (a0.extract 14 16)).bind fun t282 => (if 17 ≤ 19 then (if 19 ≤ (a0.size : Int) then ((daytime_number.f (a0.extract 17 19)).bind fun t283 => ((daytime_Seconds.f t281 t282 t283).bind fun bt284 => (if bt284.2.isNone = true then (if 20 ≤ (a0.size : Int) then ((daytime_number.f (a0.extract 20 a0.size)).bind fun t287 => ((daytime_Stamp.f k bt278.1 bt284.1 t287).bind fun bt288 => (if bt288.2.isNone = true then (if bt288.1.toList = a0.toList then (some (bt278.1, bt284.1, t287, none)) else (some (0, 0, 0, some 3))) else (some (0, 0, 0, some 3))))) else (none)) else (some (0, 0, 0, some 3))))) else (none)) else (none))) else (none)) else (none))) else (none)) else (none)) else (some (0, 0, 0, some 3)))) else (some (0, 0, 0, some (bt272.2.2.2.getD 0))))) else (none)) else (none)) else (some (0, 0, 0, some 3))
def daytime_Parse.T9 : Bool × List (List Nat × List Nat) := (true, [([], []), ([0], [0]), ([1], [1]), ([], []), ([3], [3]), ([4, 2], [4]), ([], []), ([6], [6]), ([7, 5], [7]), ([2, 5, 8], [2, 5, 8]), ([9, 8], [9]), ([10], [10]), ([11], [11]), ([11], [11]), ([12, 10, 0, 1, 2, 3, 4, 5, 6, 7, 8, 9, 10, 11, 12], [12]), ([13, 14, 0, 1, 2, 3, 4, 5, 6, 7, 8, 9, 10, 11, 12, 13, 14], [13])])
def daytime_Parse.B9 : List Nat := [0, 1, 3, 0, 8, 31, 0, 64, 255, 511, 1023, 2047, 4095, 4095, 8191, 32767]
theorem daytime_Parse.tab9 : rtab .any (opsOf Tryz.f41 9) = daytime_Parse.T9 := by kernel_rfl
theorem daytime_Parse.bits9 : waitsOk daytime_Parse.T9.2 daytime_Parse.B9 = true := by kernel_rfl
set_option maxHeartbeats 8000000 in
set_option maxRecDepth 100000 in
theorem daytime_Parse.calls (k : Nat) (a0 : ByteArray) (r1 : Int) (r2 : Int) (r3 : Int) (r4 : Option Int) (w : World) (hl_ : Laid w) (h : daytime_Parse.f k a0 = some (r1, r2, r3, r4)) :
    Calls Tryz.prog 41 #[.string a0] w fun e w' => e = .returned (.tuple #[.int .i64 r1, .int .i64 r2, .int .i64 r3, errW r4]) ∧ Below w.heap.size w w' := by
  have hu26 := Tryz.underlying26
  have hu50 := Tryz.underlying50
  have hu28 := Tryz.underlying28
  have hu157 := Tryz.underlying157
  have HL := Aside0.mk hl_
  clear hl_
  have HB := Aside0.mk (Below.refl w.heap.size w)
  have H := h
  clear h
  unfold daytime_Parse.f at H
  by_cases c2 : (a0.size : Int) = 29
  · rw [if_pos c2] at H
    have c2b0 : ((a0.size : Int) == 29) = true := beq_iff_eq.mpr c2
    have c2b1 : ((a0.size : Int) != 29) = false := bne_eq_false_iff_eq.mpr c2
    clear c2
    by_cases c3 : 0 ≤ 10
    · rw [if_pos c3] at H
      have c3b0 := eq_true c3
      have c3b1 : decide (0 ≤ 10) = true := decide_eq_true c3
      clear c3
      by_cases c4 : 10 ≤ (a0.size : Int)
      · rw [if_pos c4] at H
        have c4b0 := eq_true c4
        have c4b1 : decide (10 ≤ (a0.size : Int)) = true := decide_eq_true c4
        clear c4
        replace H := Option.bind_eq_some_iff.mp H
        obtain ⟨⟨t272, t273, t274, t275⟩, A50, H⟩ := H
        try dsimp only at H
        have A5 := Aside0.mk A50
        clear A50
        rcases t275 with _ | q277
        · rw [if_pos (show (none : Option Int).isNone = true by rfl)] at H
          try dsimp only [Option.getD_some] at H
          try simp only [errW_none, errW_some]
          replace H := Option.bind_eq_some_iff.mp H
          obtain ⟨⟨t278, t279⟩, A60, H⟩ := H
          try dsimp only at H
          have A6 := Aside0.mk A60
          clear A60
          rcases t279 with _ | q280
          · rw [if_pos (show (none : Option Int).isNone = true by rfl)] at H
            try dsimp only [Option.getD_some] at H
            try simp only [errW_none, errW_some]
            by_cases c7 : 11 ≤ 13
            · rw [if_pos c7] at H
              have c7b0 := eq_true c7
              have c7b1 : decide (11 ≤ 13) = true := decide_eq_true c7
              clear c7
              by_cases c8 : 13 ≤ (a0.size : Int)
              · rw [if_pos c8] at H
                have c8b0 := eq_true c8
                have c8b1 : decide (13 ≤ (a0.size : Int)) = true := decide_eq_true c8
                clear c8
                replace H := Option.bind_eq_some_iff.mp H
                obtain ⟨t281, A90, H⟩ := H
                try dsimp only at H
                have A9 := Aside0.mk A90
                clear A90
                by_cases c10 : 14 ≤ 16
                · rw [if_pos c10] at H
                  have c10b0 := eq_true c10
                  have c10b1 : decide (14 ≤ 16) = true := decide_eq_true c10
                  clear c10
                  by_cases c11 : 16 ≤ (a0.size : Int)
                  · rw [if_pos c11] at H
                    have c11b0 := eq_true c11
                    have c11b1 : decide (16 ≤ (a0.size : Int)) = true := decide_eq_true c11
                    clear c11
                    replace H := Option.bind_eq_some_iff.mp H
                    obtain ⟨t282, A120, H⟩ := H
                    try dsimp only at H
                    have A12 := Aside0.mk A120
                    clear A120
                    by_cases c13 : 17 ≤ 19
                    · rw [if_pos c13] at H
                      have c13b0 := eq_true c13
                      have c13b1 : decide (17 ≤ 19) = true := decide_eq_true c13
                      clear c13
                      by_cases c14 : 19 ≤ (a0.size : Int)
                      · rw [if_pos c14] at H
                        have c14b0 := eq_true c14
                        have c14b1 : decide (19 ≤ (a0.size : Int)) = true := decide_eq_true c14
                        clear c14
                        replace H := Option.bind_eq_some_iff.mp H
                        obtain ⟨t283, A150, H⟩ := H
                        try dsimp only at H
                        have A15 := Aside0.mk A150
                        clear A150
                        replace H := Option.bind_eq_some_iff.mp H
                        obtain ⟨⟨t284, t285⟩, A160, H⟩ := H
                        try dsimp only at H
                        have A16 := Aside0.mk A160
                        clear A160
                        rcases t285 with _ | q286
                        · rw [if_pos (show (none : Option Int).isNone = true by rfl)] at H
                          try dsimp only [Option.getD_some] at H
                          try simp only [errW_none, errW_some]
                          by_cases c17 : 20 ≤ (a0.size : Int)
                          · rw [if_pos c17] at H
                            have c17b0 := eq_true c17
                            have c17b1 : decide (20 ≤ (a0.size : Int)) = true := decide_eq_true c17
                            clear c17
                            replace H := Option.bind_eq_some_iff.mp H
                            obtain ⟨t287, A180, H⟩ := H
                            try dsimp only at H
                            have A18 := Aside0.mk A180
                            clear A180
                            replace H := Option.bind_eq_some_iff.mp H
                            obtain ⟨⟨t288, t289⟩, A190, H⟩ := H
                            try dsimp only at H
                            have A19 := Aside0.mk A190
                            clear A190
                            rcases t289 with _ | q290
                            · rw [if_pos (show (none : Option Int).isNone = true by rfl)] at H
                              try dsimp only [Option.getD_some] at H
                              try simp only [errW_none, errW_some]
                              by_cases c20 : t288.toList = a0.toList
                              · rw [if_pos c20] at H
                                have c20b0 : (t288.toList == a0.toList) = true := beq_iff_eq.mpr c20
                                have c20b1 : (t288.toList != a0.toList) = false := bne_eq_false_iff_eq.mpr c20
                                clear c20
                                simp only [Option.some.injEq, Prod.mk.injEq] at H
                                obtain ⟨rfl, rfl, rfl, rfl⟩ := H
                                go_enter Tryz.func41, Tryz.ntmps41
                                try go_wp2_with (first | ((with_reducible refine gate_callee (f := 27) rfl ?_); refine goesL_ (some 20) rfl rfl Tryz.func27 (by kernel_rfl) rfl #[.string (a0.extract 0 10)] rfl (by (try simp only [List.map_toArray, List.map_cons, List.map_nil]); first | done | rfl | (simp only [List.length_drop, List.length_take]; rfl)) ?_; (with_reducible refine (civil_Parse.calls (a0.extract 0 10) t272 t273 t274 none _ (by first | exact Laid.below HL.out (by repeat (first | (with_reducible first | exact HB.out | apply below_alloc | apply pw_below_drewN | apply below_drew1 | refine below_set ?_ (Aside0.out (by assumption))) | exact HB.out))) A5.out).mono ?_); rintro e w21 ⟨rfl, hb⟩; refine ⟨_, rfl, ?_⟩; have n0_ := Aside0.mk (below_step (by repeat (first | (with_reducible first | exact HB.out | apply below_alloc | apply pw_below_drewN | apply below_drew1) | exact HB.out)) hb); clear HB; have HB := n0_; clear n0_; (try clear hb); (try clear hb2); (try clear hk); (try clear hi); (try simp only [errW_none, errW_some])) | ((with_reducible refine gate_dst (N := 6) rfl ?_); refine box_event ?hg (N := 6) ?hd (cs := #[.int .i64 0, .int .i64 0, .int .i64 0]) (t := 26) ?hr ?_; (case hd => rfl); (case hg => rfl); (case hr => first | (go_simp; done) | (go_simp; rfl)); intro gb276 hg w22 hbox hb; have n0_ := Aside0.mk (below_step (by repeat (first | (with_reducible first | exact HB.out | apply below_alloc | apply pw_below_drewN | apply below_drew1) | exact HB.out)) hb); have n1_ := Aside0.mk (hbox); have n2_ := Aside0.mk ((by rw [hg]; exact (below_size (by repeat (first | (with_reducible first | exact HB.out | apply below_alloc | apply pw_below_drewN | apply below_drew1) | exact HB.out))) : w.heap.size ≤ gb276)); have n3_ := Aside0.mk ((by rw [hg]; exact (below_size (by repeat (first | (with_reducible first | exact HB.out | apply below_alloc | apply pw_below_drewN | apply below_drew1) | exact HB.out))) : w.heap.size ≤ gb276)); clear HB; have HB := n0_; have BK276 := n1_; have GW276 := n2_; have GE276 := n3_; clear n0_ n1_ n2_ n3_; clear hb hbox hg; have hcz23_0 : w22.cell? ⟨gb276, 0, none⟩ = some (.int .i64 0) := (blk_cell BK276.out 0).trans rfl; have hcz23_1 : w22.cell? ⟨gb276, 1, none⟩ = some (.int .i64 0) := (blk_cell BK276.out 1).trans rfl; have hcz23_2 : w22.cell? ⟨gb276, 2, none⟩ = some (.int .i64 0) := (blk_cell BK276.out 2).trans rfl; have hfz23_0 := blk_frozen BK276.out 0; have hfz23_1 := blk_frozen BK276.out 1; have hfz23_2 := blk_frozen BK276.out 2) | ((with_reducible refine gate_callee (f := 16) rfl ?_); refine goesL_ (some 28) rfl rfl Tryz.func16 (by kernel_rfl) rfl #[.agg #[.int .i64 t272, .int .i64 t273, .int .i64 t274]] rfl (by (try simp only [List.map_toArray, List.map_cons, List.map_nil]); first | done | rfl | (simp only [List.length_drop, List.length_take]; rfl)) ?_; (with_reducible refine (civil_Days.calls k t272 t273 t274 t278 none _ A6.out).mono ?_); rintro e w24 ⟨rfl, hb⟩; refine ⟨_, rfl, ?_⟩; have n0_ := Aside0.mk (blk_below (g := gb276) (o := .cells #[.int .i64 t272, .int .i64 t273, .int .i64 t274] 26 (0, 0)) (by (with_reducible repeat (first | refine blk_drewN ?_ _ | refine blk_drew ?_ | refine blk_alloc ?_ _)); refine blk_put (cs := #[.int .i64 t272, .int .i64 t273, .int .i64 0]) ?_ 2 _ rfl; (with_reducible repeat (first | refine blk_drewN ?_ _ | refine blk_drew ?_ | refine blk_alloc ?_ _)); refine blk_put (cs := #[.int .i64 t272, .int .i64 0, .int .i64 0]) ?_ 1 _ rfl; (with_reducible repeat (first | refine blk_drewN ?_ _ | refine blk_drew ?_ | refine blk_alloc ?_ _)); refine blk_put (cs := #[.int .i64 0, .int .i64 0, .int .i64 0]) ?_ 0 _ rfl; (with_reducible repeat (first | refine blk_drewN ?_ _ | refine blk_drew ?_ | refine blk_alloc ?_ _)); exact BK276.out) hb); have n1_ := Aside0.mk (below_step (by repeat (first | (with_reducible first | exact HB.out | apply below_alloc | apply pw_below_drewN | apply below_drew1 | refine below_set ?_ GE276.out) | exact HB.out)) hb); clear BK276; clear HB; have BK276 := n0_; have HB := n1_; clear n0_ n1_; (try clear hb); (try clear hb2); (try clear hk); (try clear hi); (try simp only [errW_none, errW_some])))
                                have n0_ := Aside0.mk (blk_drew BK276.out)
                                have n1_ := Aside0.mk (below_drew1 HB.out)
                                clear BK276
                                clear HB
                                have BK276 := n0_
                                have HB := n1_
                                clear n0_ n1_
                                refine start_ (n := 16) (S := fun w' => True) (ds := []) #[false, false, false, false, false, false, false, false, false, false, false, false, false, false, false, false] (by kernel_rfl) rfl rfl trivial (fun hHeld => ?_); refine with_tabW daytime_Parse.tab9 daytime_Parse.bits9 (fun HT_ HW_ => ?_)
                                generalize w24.drew = w25 at BK276 HB hHeld ⊢
                                refine pure_ (i := 0) (N := some 35) (v := ?_) (a' := ?_) #[true, false, false, false, false, false, false, false, false, false, false, false, false, false, false, false] rfl rfl (any_of HT_.out (by kernel_rfl)) (fun _ _ _ h => h) (Or.inl ⟨by rfl, ?_⟩) ?_ ?_
                                rotate_left
                                · intro w'
                                  go_simp
                                  with_reducible rfl
                                rotate_left
                                · simp only [Act.put, List.setIfInBounds_toArray, List.set_cons_zero, List.set_cons_succ, i64_w, i32_w]
                                  rfl
                                refine pure_ (i := 1) (N := some 36) (v := ?_) (a' := ?_) #[true, true, false, false, false, false, false, false, false, false, false, false, false, false, false, false] rfl rfl (any_of HT_.out (by kernel_rfl)) (fun _ _ _ h => h) (Or.inl ⟨by rfl, ?_⟩) ?_ ?_
                                rotate_left
                                · intro w'
                                  go_simp
                                  with_reducible rfl
                                rotate_left
                                · simp only [Act.put, List.setIfInBounds_toArray, List.set_cons_zero, List.set_cons_succ, i64_w, i32_w]
                                  rfl
                                refine pure_ (i := 3) (N := some 38) (v := ?_) (a' := ?_) #[true, true, false, true, false, false, false, false, false, false, false, false, false, false, false, false] rfl rfl (any_of HT_.out (by kernel_rfl)) (fun _ _ _ h => h) (Or.inl ⟨by rfl, ?_⟩) ?_ ?_
                                rotate_left
                                · intro w'
                                  go_simp
                                  with_reducible rfl
                                rotate_left
                                · simp only [Act.put, List.setIfInBounds_toArray, List.set_cons_zero, List.set_cons_succ, i64_w, i32_w]
                                  rfl
                                refine pure_ (i := 4) (N := some 39) (v := ?_) (a' := ?_) #[true, true, false, true, true, false, false, false, false, false, false, false, false, false, false, false] rfl rfl (any_of HT_.out (by kernel_rfl)) (fun _ _ _ h => h) (Or.inl ⟨by rfl, ?_⟩) ?_ ?_
                                rotate_left
                                · intro w'
                                  go_simp
                                  with_reducible rfl
                                rotate_left
                                · simp only [Act.put, List.setIfInBounds_toArray, List.set_cons_zero, List.set_cons_succ, i64_w, i32_w]
                                  rfl
                                refine pure_ (i := 6) (N := some 41) (v := ?_) (a' := ?_) #[true, true, false, true, true, false, true, false, false, false, false, false, false, false, false, false] rfl rfl (any_of HT_.out (by kernel_rfl)) (fun _ _ _ h => h) (Or.inl ⟨by rfl, ?_⟩) ?_ ?_
                                rotate_left
                                · intro w'
                                  go_simp
                                  with_reducible rfl
                                rotate_left
                                · simp only [Act.put, List.setIfInBounds_toArray, List.set_cons_zero, List.set_cons_succ, i64_w, i32_w]
                                  rfl
                                refine pure_ (i := 7) (N := some 42) (v := ?_) (a' := ?_) #[true, true, false, true, true, false, true, true, false, false, false, false, false, false, false, false] rfl rfl (any_of HT_.out (by kernel_rfl)) (fun _ _ _ h => h) (Or.inl ⟨by rfl, ?_⟩) ?_ ?_
                                rotate_left
                                · intro w'
                                  go_simp
                                  with_reducible rfl
                                rotate_left
                                · simp only [Act.put, List.setIfInBounds_toArray, List.set_cons_zero, List.set_cons_succ, i64_w, i32_w]
                                  rfl
                                refine one_ (i := 2) (N := some 37) #[true, true, true, true, true, false, true, true, false, false, false, false, false, false, false, false] rfl rfl (one_of HT_.out (by kernel_rfl)) (by decide) (fun K hK => ?_)
                                refine goes_ Tryz.func101 (by kernel_rfl) rfl #[.string (a0.extract 11 13)] (by rfl) rfl rfl (by (try simp only [List.map_toArray, List.map_cons, List.map_nil]); first | done | rfl | (simp only [List.length_drop, List.length_take]; rfl)) ?_
                                with_reducible refine (daytime_number.calls (a0.extract 11 13) t281 _ (by first | exact Laid.below HL.out (by repeat (first | (with_reducible first | exact HB.out | apply below_alloc | apply pw_below_drewN | apply below_drew1 | refine below_set ?_ (Aside0.out (by assumption))) | exact HB.out))) A9.out).mono ?_
                                rintro e w26 ⟨rfl, hb⟩
                                refine ⟨_, rfl, ?_⟩
                                have n0_ := Aside0.mk (blk_below (g := gb276) (o := .cells #[.int .i64 t272, .int .i64 t273, .int .i64 t274] 26 (0, 0)) (by (with_reducible repeat (first | refine blk_drewN ?_ _ | refine blk_drew ?_ | refine blk_alloc ?_ _)); exact BK276.out) hb)
                                have n1_ := Aside0.mk (below_step (by repeat (first | (with_reducible first | exact HB.out | apply below_alloc | apply pw_below_drewN | apply below_drew1 | refine below_set ?_ GE276.out) | exact HB.out)) hb)
                                clear BK276
                                clear HB
                                have BK276 := n0_
                                have HB := n1_
                                clear n0_ n1_
                                (try clear hb)
                                (try clear hb2)
                                (try clear hk)
                                (try clear hi)
                                refine hK.out _ _ trivial (fun hHeld => ?_)
                                clear hK K
                                refine norm_ (a' := ?_) ?_ ?_
                                rotate_left
                                · show Act.put _ (some 37) _ = _
                                  simp only [Act.put, List.setIfInBounds_toArray, List.set_cons_zero, List.set_cons_succ, i64_w, i32_w]
                                  rfl
                                refine one_ (i := 5) (N := some 40) #[true, true, true, true, true, true, true, true, false, false, false, false, false, false, false, false] rfl rfl (one_of HT_.out (by kernel_rfl)) (by decide) (fun K hK => ?_)
                                refine goes_ Tryz.func101 (by kernel_rfl) rfl #[.string (a0.extract 14 16)] (by rfl) rfl rfl (by (try simp only [List.map_toArray, List.map_cons, List.map_nil]); first | done | rfl | (simp only [List.length_drop, List.length_take]; rfl)) ?_
                                with_reducible refine (daytime_number.calls (a0.extract 14 16) t282 _ (by first | exact Laid.below HL.out (by repeat (first | (with_reducible first | exact HB.out | apply below_alloc | apply pw_below_drewN | apply below_drew1 | refine below_set ?_ (Aside0.out (by assumption))) | exact HB.out))) A12.out).mono ?_
                                rintro e w27 ⟨rfl, hb⟩
                                refine ⟨_, rfl, ?_⟩
                                have n0_ := Aside0.mk (blk_below (g := gb276) (o := .cells #[.int .i64 t272, .int .i64 t273, .int .i64 t274] 26 (0, 0)) (by (with_reducible repeat (first | refine blk_drewN ?_ _ | refine blk_drew ?_ | refine blk_alloc ?_ _)); exact BK276.out) hb)
                                have n1_ := Aside0.mk (below_step (by repeat (first | (with_reducible first | exact HB.out | apply below_alloc | apply pw_below_drewN | apply below_drew1 | refine below_set ?_ GE276.out) | exact HB.out)) hb)
                                clear BK276
                                clear HB
                                have BK276 := n0_
                                have HB := n1_
                                clear n0_ n1_
                                (try clear hb)
                                (try clear hb2)
                                (try clear hk)
                                (try clear hi)
                                refine hK.out _ _ trivial (fun hHeld => ?_)
                                clear hK K
                                refine norm_ (a' := ?_) ?_ ?_
                                rotate_left
                                · show Act.put _ (some 40) _ = _
                                  simp only [Act.put, List.setIfInBounds_toArray, List.set_cons_zero, List.set_cons_succ, i64_w, i32_w]
                                  rfl
                                refine one_ (i := 8) (N := some 43) #[true, true, true, true, true, true, true, true, true, false, false, false, false, false, false, false] rfl rfl (one_of HT_.out (by kernel_rfl)) (by decide) (fun K hK => ?_)
                                refine goes_ Tryz.func101 (by kernel_rfl) rfl #[.string (a0.extract 17 19)] (by rfl) rfl rfl (by (try simp only [List.map_toArray, List.map_cons, List.map_nil]); first | done | rfl | (simp only [List.length_drop, List.length_take]; rfl)) ?_
                                with_reducible refine (daytime_number.calls (a0.extract 17 19) t283 _ (by first | exact Laid.below HL.out (by repeat (first | (with_reducible first | exact HB.out | apply below_alloc | apply pw_below_drewN | apply below_drew1 | refine below_set ?_ (Aside0.out (by assumption))) | exact HB.out))) A15.out).mono ?_
                                rintro e w28 ⟨rfl, hb⟩
                                refine ⟨_, rfl, ?_⟩
                                have n0_ := Aside0.mk (blk_below (g := gb276) (o := .cells #[.int .i64 t272, .int .i64 t273, .int .i64 t274] 26 (0, 0)) (by (with_reducible repeat (first | refine blk_drewN ?_ _ | refine blk_drew ?_ | refine blk_alloc ?_ _)); exact BK276.out) hb)
                                have n1_ := Aside0.mk (below_step (by repeat (first | (with_reducible first | exact HB.out | apply below_alloc | apply pw_below_drewN | apply below_drew1 | refine below_set ?_ GE276.out) | exact HB.out)) hb)
                                clear BK276
                                clear HB
                                have BK276 := n0_
                                have HB := n1_
                                clear n0_ n1_
                                (try clear hb)
                                (try clear hb2)
                                (try clear hk)
                                (try clear hi)
                                refine hK.out _ _ trivial (fun hHeld => ?_)
                                clear hK K
                                refine norm_ (a' := ?_) ?_ ?_
                                rotate_left
                                · show Act.put _ (some 43) _ = _
                                  simp only [Act.put, List.setIfInBounds_toArray, List.set_cons_zero, List.set_cons_succ, i64_w, i32_w]
                                  rfl
                                refine pure_ (i := 9) (N := some 44) (v := ?_) (a' := ?_) #[true, true, true, true, true, true, true, true, true, true, false, false, false, false, false, false] rfl rfl (any_of HT_.out (by kernel_rfl)) (fun _ _ _ h => h) (Or.inl ⟨by rfl, ?_⟩) ?_ ?_
                                rotate_left
                                · intro w'
                                  go_simp
                                  with_reducible rfl
                                rotate_left
                                · simp only [Act.put, List.setIfInBounds_toArray, List.set_cons_zero, List.set_cons_succ, i64_w, i32_w]
                                  rfl
                                refine one_ (i := 10) (N := some 45) #[true, true, true, true, true, true, true, true, true, true, true, false, false, false, false, false] rfl rfl (one_of HT_.out (by kernel_rfl)) (by decide) (fun K hK => ?_)
                                refine goes_ Tryz.func32 (by kernel_rfl) rfl #[.agg #[.int .i64 t281, .int .i64 t282, .int .i64 t283]] (by rfl) rfl rfl (by (try simp only [List.map_toArray, List.map_cons, List.map_nil]); first | done | rfl | (simp only [List.length_drop, List.length_take]; rfl)) ?_
                                with_reducible refine (daytime_Seconds.calls t281 t282 t283 t284 none _ A16.out).mono ?_
                                rintro e w29 ⟨rfl, hb⟩
                                refine ⟨_, rfl, ?_⟩
                                have n0_ := Aside0.mk (blk_below (g := gb276) (o := .cells #[.int .i64 t272, .int .i64 t273, .int .i64 t274] 26 (0, 0)) (by (with_reducible repeat (first | refine blk_drewN ?_ _ | refine blk_drew ?_ | refine blk_alloc ?_ _)); exact BK276.out) hb)
                                have n1_ := Aside0.mk (below_step (by repeat (first | (with_reducible first | exact HB.out | apply below_alloc | apply pw_below_drewN | apply below_drew1 | refine below_set ?_ GE276.out) | exact HB.out)) hb)
                                clear BK276
                                clear HB
                                have BK276 := n0_
                                have HB := n1_
                                clear n0_ n1_
                                (try clear hb)
                                (try clear hb2)
                                (try clear hk)
                                (try clear hi)
                                (try simp only [errW_none, errW_some])
                                refine hK.out _ _ trivial (fun hHeld => ?_)
                                clear hK K
                                refine norm_ (a' := ?_) ?_ ?_
                                rotate_left
                                · show Act.put _ (some 45) _ = _
                                  simp only [Act.put, List.setIfInBounds_toArray, List.set_cons_zero, List.set_cons_succ, i64_w, i32_w]
                                  rfl
                                refine pure_ (i := 11) (N := some 34) (v := ?_) (a' := ?_) #[true, true, true, true, true, true, true, true, true, true, true, true, false, false, false, false] rfl rfl (any_of HT_.out (by kernel_rfl)) (fun _ _ _ h => h) (Or.inl ⟨by rfl, ?_⟩) ?_ ?_
                                rotate_left
                                · intro w'
                                  go_simp
                                  with_reducible rfl
                                rotate_left
                                · simp only [Act.put, List.setIfInBounds_toArray, List.set_cons_zero, List.set_cons_succ, i64_w, i32_w]
                                  rfl
                                refine pure_ (i := 12) (N := some 46) (v := ?_) (a' := ?_) #[true, true, true, true, true, true, true, true, true, true, true, true, true, false, false, false] rfl rfl (any_of HT_.out (by kernel_rfl)) (fun _ _ _ h => h) (Or.inl ⟨by rfl, ?_⟩) ?_ ?_
                                rotate_left
                                · intro w'
                                  go_simp
                                  with_reducible rfl
                                rotate_left
                                · simp only [Act.put, List.setIfInBounds_toArray, List.set_cons_zero, List.set_cons_succ, i64_w, i32_w]
                                  rfl
                                refine pure_ (i := 13) (N := some 47) (v := ?_) (a' := ?_) #[true, true, true, true, true, true, true, true, true, true, true, true, true, true, false, false] rfl rfl (any_of HT_.out (by kernel_rfl)) (fun _ _ _ h => h) (Or.inl ⟨by rfl, ?_⟩) ?_ ?_
                                rotate_left
                                · intro w'
                                  go_simp
                                  with_reducible rfl
                                rotate_left
                                · simp only [Act.put, List.setIfInBounds_toArray, List.set_cons_zero, List.set_cons_succ, i64_w, i32_w]
                                  rfl
                                refine pure_ (i := 14) (N := some 9) (v := ?_) (a' := ?_) #[true, true, true, true, true, true, true, true, true, true, true, true, true, true, true, false] rfl rfl (any_of HT_.out (by kernel_rfl)) (fun _ _ _ h => h) (Or.inl ⟨by rfl, ?_⟩) ?_ ?_
                                rotate_left
                                · intro w'
                                  go_simp
                                  with_reducible rfl
                                rotate_left
                                · simp only [Act.put, List.setIfInBounds_toArray, List.set_cons_zero, List.set_cons_succ, i64_w, i32_w]
                                  rfl
                                refine pure_ (i := 15) (N := some 7) (v := ?_) (a' := ?_) #[true, true, true, true, true, true, true, true, true, true, true, true, true, true, true, true] rfl rfl (any_of HT_.out (by kernel_rfl)) (fun _ _ _ h => h) (Or.inl ⟨by rfl, ?_⟩) ?_ ?_
                                rotate_left
                                · intro w'
                                  go_simp
                                  with_reducible rfl
                                rotate_left
                                · simp only [Act.put, List.setIfInBounds_toArray, List.set_cons_zero, List.set_cons_succ, i64_w, i32_w]
                                  rfl
                                refine done_ (done_of HT_.out (by kernel_rfl)) ?_
                                try go_wp2_with (first | ((with_reducible refine gate_callee (f := 101) rfl ?_); refine goesL_ (some 53) rfl rfl Tryz.func101 (by kernel_rfl) rfl #[.string (a0.extract 20 a0.size)] rfl (by (try simp only [List.map_toArray, List.map_cons, List.map_nil]); first | done | rfl | (simp only [List.length_drop, List.length_take]; rfl)) ?_; (with_reducible refine (daytime_number.calls (a0.extract 20 a0.size) t287 _ (by first | exact Laid.below HL.out (by repeat (first | (with_reducible first | exact HB.out | apply below_alloc | apply pw_below_drewN | apply below_drew1 | refine below_set ?_ (Aside0.out (by assumption))) | exact HB.out))) A18.out).mono ?_); rintro e w30 ⟨rfl, hb⟩; refine ⟨_, rfl, ?_⟩; have n0_ := Aside0.mk (blk_below (g := gb276) (o := .cells #[.int .i64 t272, .int .i64 t273, .int .i64 t274] 26 (0, 0)) (by (with_reducible repeat (first | refine blk_drewN ?_ _ | refine blk_drew ?_ | refine blk_alloc ?_ _)); exact BK276.out) hb); have n1_ := Aside0.mk (below_step (by repeat (first | (with_reducible first | exact HB.out | apply below_alloc | apply pw_below_drewN | apply below_drew1 | refine below_set ?_ GE276.out) | exact HB.out)) hb); clear BK276; clear HB; have BK276 := n0_; have HB := n1_; clear n0_ n1_; (try clear hb); (try clear hb2); (try clear hk); (try clear hi)) | ((with_reducible refine gate_callee (f := 39) rfl ?_); refine goesL_ (some 58) rfl rfl Tryz.func39 (by kernel_rfl) rfl #[.int .i64 t278, .int .i64 t284, .int .i64 t287] rfl (by (try simp only [List.map_toArray, List.map_cons, List.map_nil]); first | done | rfl | (simp only [List.length_drop, List.length_take]; rfl)) ?_; (with_reducible refine (daytime_Stamp.calls k t278 t284 t287 t288 none _ (by first | exact Laid.below HL.out (by repeat (first | (with_reducible first | exact HB.out | apply below_alloc | apply pw_below_drewN | apply below_drew1 | refine below_set ?_ (Aside0.out (by assumption))) | exact HB.out))) A19.out).mono ?_); rintro e w31 ⟨rfl, hb⟩; refine ⟨_, rfl, ?_⟩; have n0_ := Aside0.mk (blk_below (g := gb276) (o := .cells #[.int .i64 t272, .int .i64 t273, .int .i64 t274] 26 (0, 0)) (by (with_reducible repeat (first | refine blk_drewN ?_ _ | refine blk_drew ?_ | refine blk_alloc ?_ _)); exact BK276.out) hb); have n1_ := Aside0.mk (below_step (by repeat (first | (with_reducible first | exact HB.out | apply below_alloc | apply pw_below_drewN | apply below_drew1 | refine below_set ?_ GE276.out) | exact HB.out)) hb); clear BK276; clear HB; have BK276 := n0_; have HB := n1_; clear n0_ n1_; (try clear hb); (try clear hb2); (try clear hk); (try clear hi); (try simp only [errW_none, errW_some])))
                                refine bodyPost_ret (results_list (rs := [.tmp 2, .tmp 3, .tmp 4, .tmp 5]) rfl (by simp) (.tmp (.tmp (.tmp (.tmp .nil))))) rfl ?_
                                exact ⟨by first | rfl | (simp [errW_none, errW_some] <;> rfl) | (simp [*, errW_none, errW_some] <;> rfl), by repeat (first | (with_reducible first | exact HB.out | apply below_alloc | apply pw_below_drewN | apply below_drew1 | refine below_set ?_ GE276.out) | exact HB.out)⟩
                              · rw [if_neg c20] at H
                                have c20b0 : (t288.toList == a0.toList) = false := beq_eq_false_iff_ne.mpr c20
                                have c20b1 : (t288.toList != a0.toList) = true := bne_iff_ne.mpr c20
                                simp only [Option.some.injEq, Prod.mk.injEq] at H
                                obtain ⟨rfl, rfl, rfl, rfl⟩ := H
                                go_enter Tryz.func41, Tryz.ntmps41
                                try go_wp2_with (first | ((with_reducible refine gate_callee (f := 27) rfl ?_); refine goesL_ (some 20) rfl rfl Tryz.func27 (by kernel_rfl) rfl #[.string (a0.extract 0 10)] rfl (by (try simp only [List.map_toArray, List.map_cons, List.map_nil]); first | done | rfl | (simp only [List.length_drop, List.length_take]; rfl)) ?_; (with_reducible refine (civil_Parse.calls (a0.extract 0 10) t272 t273 t274 none _ (by first | exact Laid.below HL.out (by repeat (first | (with_reducible first | exact HB.out | apply below_alloc | apply pw_below_drewN | apply below_drew1 | refine below_set ?_ (Aside0.out (by assumption))) | exact HB.out))) A5.out).mono ?_); rintro e w32 ⟨rfl, hb⟩; refine ⟨_, rfl, ?_⟩; have n0_ := Aside0.mk (below_step (by repeat (first | (with_reducible first | exact HB.out | apply below_alloc | apply pw_below_drewN | apply below_drew1) | exact HB.out)) hb); clear HB; have HB := n0_; clear n0_; (try clear hb); (try clear hb2); (try clear hk); (try clear hi); (try simp only [errW_none, errW_some])) | ((with_reducible refine gate_dst (N := 6) rfl ?_); refine box_event ?hg (N := 6) ?hd (cs := #[.int .i64 0, .int .i64 0, .int .i64 0]) (t := 26) ?hr ?_; (case hd => rfl); (case hg => rfl); (case hr => first | (go_simp; done) | (go_simp; rfl)); intro gb276 hg w33 hbox hb; have n0_ := Aside0.mk (below_step (by repeat (first | (with_reducible first | exact HB.out | apply below_alloc | apply pw_below_drewN | apply below_drew1) | exact HB.out)) hb); have n1_ := Aside0.mk (hbox); have n2_ := Aside0.mk ((by rw [hg]; exact (below_size (by repeat (first | (with_reducible first | exact HB.out | apply below_alloc | apply pw_below_drewN | apply below_drew1) | exact HB.out))) : w.heap.size ≤ gb276)); have n3_ := Aside0.mk ((by rw [hg]; exact (below_size (by repeat (first | (with_reducible first | exact HB.out | apply below_alloc | apply pw_below_drewN | apply below_drew1) | exact HB.out))) : w.heap.size ≤ gb276)); clear HB; have HB := n0_; have BK276 := n1_; have GW276 := n2_; have GE276 := n3_; clear n0_ n1_ n2_ n3_; clear hb hbox hg; have hcz34_0 : w33.cell? ⟨gb276, 0, none⟩ = some (.int .i64 0) := (blk_cell BK276.out 0).trans rfl; have hcz34_1 : w33.cell? ⟨gb276, 1, none⟩ = some (.int .i64 0) := (blk_cell BK276.out 1).trans rfl; have hcz34_2 : w33.cell? ⟨gb276, 2, none⟩ = some (.int .i64 0) := (blk_cell BK276.out 2).trans rfl; have hfz34_0 := blk_frozen BK276.out 0; have hfz34_1 := blk_frozen BK276.out 1; have hfz34_2 := blk_frozen BK276.out 2) | ((with_reducible refine gate_callee (f := 16) rfl ?_); refine goesL_ (some 28) rfl rfl Tryz.func16 (by kernel_rfl) rfl #[.agg #[.int .i64 t272, .int .i64 t273, .int .i64 t274]] rfl (by (try simp only [List.map_toArray, List.map_cons, List.map_nil]); first | done | rfl | (simp only [List.length_drop, List.length_take]; rfl)) ?_; (with_reducible refine (civil_Days.calls k t272 t273 t274 t278 none _ A6.out).mono ?_); rintro e w35 ⟨rfl, hb⟩; refine ⟨_, rfl, ?_⟩; have n0_ := Aside0.mk (blk_below (g := gb276) (o := .cells #[.int .i64 t272, .int .i64 t273, .int .i64 t274] 26 (0, 0)) (by (with_reducible repeat (first | refine blk_drewN ?_ _ | refine blk_drew ?_ | refine blk_alloc ?_ _)); refine blk_put (cs := #[.int .i64 t272, .int .i64 t273, .int .i64 0]) ?_ 2 _ rfl; (with_reducible repeat (first | refine blk_drewN ?_ _ | refine blk_drew ?_ | refine blk_alloc ?_ _)); refine blk_put (cs := #[.int .i64 t272, .int .i64 0, .int .i64 0]) ?_ 1 _ rfl; (with_reducible repeat (first | refine blk_drewN ?_ _ | refine blk_drew ?_ | refine blk_alloc ?_ _)); refine blk_put (cs := #[.int .i64 0, .int .i64 0, .int .i64 0]) ?_ 0 _ rfl; (with_reducible repeat (first | refine blk_drewN ?_ _ | refine blk_drew ?_ | refine blk_alloc ?_ _)); exact BK276.out) hb); have n1_ := Aside0.mk (below_step (by repeat (first | (with_reducible first | exact HB.out | apply below_alloc | apply pw_below_drewN | apply below_drew1 | refine below_set ?_ GE276.out) | exact HB.out)) hb); clear BK276; clear HB; have BK276 := n0_; have HB := n1_; clear n0_ n1_; (try clear hb); (try clear hb2); (try clear hk); (try clear hi); (try simp only [errW_none, errW_some])))
                                have n0_ := Aside0.mk (blk_drew BK276.out)
                                have n1_ := Aside0.mk (below_drew1 HB.out)
                                clear BK276
                                clear HB
                                have BK276 := n0_
                                have HB := n1_
                                clear n0_ n1_
                                refine start_ (n := 16) (S := fun w' => True) (ds := []) #[false, false, false, false, false, false, false, false, false, false, false, false, false, false, false, false] (by kernel_rfl) rfl rfl trivial (fun hHeld => ?_); refine with_tabW daytime_Parse.tab9 daytime_Parse.bits9 (fun HT_ HW_ => ?_)
                                generalize w35.drew = w36 at BK276 HB hHeld ⊢
                                refine pure_ (i := 0) (N := some 35) (v := ?_) (a' := ?_) #[true, false, false, false, false, false, false, false, false, false, false, false, false, false, false, false] rfl rfl (any_of HT_.out (by kernel_rfl)) (fun _ _ _ h => h) (Or.inl ⟨by rfl, ?_⟩) ?_ ?_
                                rotate_left
                                · intro w'
                                  go_simp
                                  with_reducible rfl
                                rotate_left
                                · simp only [Act.put, List.setIfInBounds_toArray, List.set_cons_zero, List.set_cons_succ, i64_w, i32_w]
                                  rfl
                                refine pure_ (i := 1) (N := some 36) (v := ?_) (a' := ?_) #[true, true, false, false, false, false, false, false, false, false, false, false, false, false, false, false] rfl rfl (any_of HT_.out (by kernel_rfl)) (fun _ _ _ h => h) (Or.inl ⟨by rfl, ?_⟩) ?_ ?_
                                rotate_left
                                · intro w'
                                  go_simp
                                  with_reducible rfl
                                rotate_left
                                · simp only [Act.put, List.setIfInBounds_toArray, List.set_cons_zero, List.set_cons_succ, i64_w, i32_w]
                                  rfl
                                refine pure_ (i := 3) (N := some 38) (v := ?_) (a' := ?_) #[true, true, false, true, false, false, false, false, false, false, false, false, false, false, false, false] rfl rfl (any_of HT_.out (by kernel_rfl)) (fun _ _ _ h => h) (Or.inl ⟨by rfl, ?_⟩) ?_ ?_
                                rotate_left
                                · intro w'
                                  go_simp
                                  with_reducible rfl
                                rotate_left
                                · simp only [Act.put, List.setIfInBounds_toArray, List.set_cons_zero, List.set_cons_succ, i64_w, i32_w]
                                  rfl
                                refine pure_ (i := 4) (N := some 39) (v := ?_) (a' := ?_) #[true, true, false, true, true, false, false, false, false, false, false, false, false, false, false, false] rfl rfl (any_of HT_.out (by kernel_rfl)) (fun _ _ _ h => h) (Or.inl ⟨by rfl, ?_⟩) ?_ ?_
                                rotate_left
                                · intro w'
                                  go_simp
                                  with_reducible rfl
                                rotate_left
                                · simp only [Act.put, List.setIfInBounds_toArray, List.set_cons_zero, List.set_cons_succ, i64_w, i32_w]
                                  rfl
                                refine pure_ (i := 6) (N := some 41) (v := ?_) (a' := ?_) #[true, true, false, true, true, false, true, false, false, false, false, false, false, false, false, false] rfl rfl (any_of HT_.out (by kernel_rfl)) (fun _ _ _ h => h) (Or.inl ⟨by rfl, ?_⟩) ?_ ?_
                                rotate_left
                                · intro w'
                                  go_simp
                                  with_reducible rfl
                                rotate_left
                                · simp only [Act.put, List.setIfInBounds_toArray, List.set_cons_zero, List.set_cons_succ, i64_w, i32_w]
                                  rfl
                                refine pure_ (i := 7) (N := some 42) (v := ?_) (a' := ?_) #[true, true, false, true, true, false, true, true, false, false, false, false, false, false, false, false] rfl rfl (any_of HT_.out (by kernel_rfl)) (fun _ _ _ h => h) (Or.inl ⟨by rfl, ?_⟩) ?_ ?_
                                rotate_left
                                · intro w'
                                  go_simp
                                  with_reducible rfl
                                rotate_left
                                · simp only [Act.put, List.setIfInBounds_toArray, List.set_cons_zero, List.set_cons_succ, i64_w, i32_w]
                                  rfl
                                refine one_ (i := 2) (N := some 37) #[true, true, true, true, true, false, true, true, false, false, false, false, false, false, false, false] rfl rfl (one_of HT_.out (by kernel_rfl)) (by decide) (fun K hK => ?_)
                                refine goes_ Tryz.func101 (by kernel_rfl) rfl #[.string (a0.extract 11 13)] (by rfl) rfl rfl (by (try simp only [List.map_toArray, List.map_cons, List.map_nil]); first | done | rfl | (simp only [List.length_drop, List.length_take]; rfl)) ?_
                                with_reducible refine (daytime_number.calls (a0.extract 11 13) t281 _ (by first | exact Laid.below HL.out (by repeat (first | (with_reducible first | exact HB.out | apply below_alloc | apply pw_below_drewN | apply below_drew1 | refine below_set ?_ (Aside0.out (by assumption))) | exact HB.out))) A9.out).mono ?_
                                rintro e w37 ⟨rfl, hb⟩
                                refine ⟨_, rfl, ?_⟩
                                have n0_ := Aside0.mk (blk_below (g := gb276) (o := .cells #[.int .i64 t272, .int .i64 t273, .int .i64 t274] 26 (0, 0)) (by (with_reducible repeat (first | refine blk_drewN ?_ _ | refine blk_drew ?_ | refine blk_alloc ?_ _)); exact BK276.out) hb)
                                have n1_ := Aside0.mk (below_step (by repeat (first | (with_reducible first | exact HB.out | apply below_alloc | apply pw_below_drewN | apply below_drew1 | refine below_set ?_ GE276.out) | exact HB.out)) hb)
                                clear BK276
                                clear HB
                                have BK276 := n0_
                                have HB := n1_
                                clear n0_ n1_
                                (try clear hb)
                                (try clear hb2)
                                (try clear hk)
                                (try clear hi)
                                refine hK.out _ _ trivial (fun hHeld => ?_)
                                clear hK K
                                refine norm_ (a' := ?_) ?_ ?_
                                rotate_left
                                · show Act.put _ (some 37) _ = _
                                  simp only [Act.put, List.setIfInBounds_toArray, List.set_cons_zero, List.set_cons_succ, i64_w, i32_w]
                                  rfl
                                refine one_ (i := 5) (N := some 40) #[true, true, true, true, true, true, true, true, false, false, false, false, false, false, false, false] rfl rfl (one_of HT_.out (by kernel_rfl)) (by decide) (fun K hK => ?_)
                                refine goes_ Tryz.func101 (by kernel_rfl) rfl #[.string (a0.extract 14 16)] (by rfl) rfl rfl (by (try simp only [List.map_toArray, List.map_cons, List.map_nil]); first | done | rfl | (simp only [List.length_drop, List.length_take]; rfl)) ?_
                                with_reducible refine (daytime_number.calls (a0.extract 14 16) t282 _ (by first | exact Laid.below HL.out (by repeat (first | (with_reducible first | exact HB.out | apply below_alloc | apply pw_below_drewN | apply below_drew1 | refine below_set ?_ (Aside0.out (by assumption))) | exact HB.out))) A12.out).mono ?_
                                rintro e w38 ⟨rfl, hb⟩
                                refine ⟨_, rfl, ?_⟩
                                have n0_ := Aside0.mk (blk_below (g := gb276) (o := .cells #[.int .i64 t272, .int .i64 t273, .int .i64 t274] 26 (0, 0)) (by (with_reducible repeat (first | refine blk_drewN ?_ _ | refine blk_drew ?_ | refine blk_alloc ?_ _)); exact BK276.out) hb)
                                have n1_ := Aside0.mk (below_step (by repeat (first | (with_reducible first | exact HB.out | apply below_alloc | apply pw_below_drewN | apply below_drew1 | refine below_set ?_ GE276.out) | exact HB.out)) hb)
                                clear BK276
                                clear HB
                                have BK276 := n0_
                                have HB := n1_
                                clear n0_ n1_
                                (try clear hb)
                                (try clear hb2)
                                (try clear hk)
                                (try clear hi)
                                refine hK.out _ _ trivial (fun hHeld => ?_)
                                clear hK K
                                refine norm_ (a' := ?_) ?_ ?_
                                rotate_left
                                · show Act.put _ (some 40) _ = _
                                  simp only [Act.put, List.setIfInBounds_toArray, List.set_cons_zero, List.set_cons_succ, i64_w, i32_w]
                                  rfl
                                refine one_ (i := 8) (N := some 43) #[true, true, true, true, true, true, true, true, true, false, false, false, false, false, false, false] rfl rfl (one_of HT_.out (by kernel_rfl)) (by decide) (fun K hK => ?_)
                                refine goes_ Tryz.func101 (by kernel_rfl) rfl #[.string (a0.extract 17 19)] (by rfl) rfl rfl (by (try simp only [List.map_toArray, List.map_cons, List.map_nil]); first | done | rfl | (simp only [List.length_drop, List.length_take]; rfl)) ?_
                                with_reducible refine (daytime_number.calls (a0.extract 17 19) t283 _ (by first | exact Laid.below HL.out (by repeat (first | (with_reducible first | exact HB.out | apply below_alloc | apply pw_below_drewN | apply below_drew1 | refine below_set ?_ (Aside0.out (by assumption))) | exact HB.out))) A15.out).mono ?_
                                rintro e w39 ⟨rfl, hb⟩
                                refine ⟨_, rfl, ?_⟩
                                have n0_ := Aside0.mk (blk_below (g := gb276) (o := .cells #[.int .i64 t272, .int .i64 t273, .int .i64 t274] 26 (0, 0)) (by (with_reducible repeat (first | refine blk_drewN ?_ _ | refine blk_drew ?_ | refine blk_alloc ?_ _)); exact BK276.out) hb)
                                have n1_ := Aside0.mk (below_step (by repeat (first | (with_reducible first | exact HB.out | apply below_alloc | apply pw_below_drewN | apply below_drew1 | refine below_set ?_ GE276.out) | exact HB.out)) hb)
                                clear BK276
                                clear HB
                                have BK276 := n0_
                                have HB := n1_
                                clear n0_ n1_
                                (try clear hb)
                                (try clear hb2)
                                (try clear hk)
                                (try clear hi)
                                refine hK.out _ _ trivial (fun hHeld => ?_)
                                clear hK K
                                refine norm_ (a' := ?_) ?_ ?_
                                rotate_left
                                · show Act.put _ (some 43) _ = _
                                  simp only [Act.put, List.setIfInBounds_toArray, List.set_cons_zero, List.set_cons_succ, i64_w, i32_w]
                                  rfl
                                refine pure_ (i := 9) (N := some 44) (v := ?_) (a' := ?_) #[true, true, true, true, true, true, true, true, true, true, false, false, false, false, false, false] rfl rfl (any_of HT_.out (by kernel_rfl)) (fun _ _ _ h => h) (Or.inl ⟨by rfl, ?_⟩) ?_ ?_
                                rotate_left
                                · intro w'
                                  go_simp
                                  with_reducible rfl
                                rotate_left
                                · simp only [Act.put, List.setIfInBounds_toArray, List.set_cons_zero, List.set_cons_succ, i64_w, i32_w]
                                  rfl
                                refine one_ (i := 10) (N := some 45) #[true, true, true, true, true, true, true, true, true, true, true, false, false, false, false, false] rfl rfl (one_of HT_.out (by kernel_rfl)) (by decide) (fun K hK => ?_)
                                refine goes_ Tryz.func32 (by kernel_rfl) rfl #[.agg #[.int .i64 t281, .int .i64 t282, .int .i64 t283]] (by rfl) rfl rfl (by (try simp only [List.map_toArray, List.map_cons, List.map_nil]); first | done | rfl | (simp only [List.length_drop, List.length_take]; rfl)) ?_
                                with_reducible refine (daytime_Seconds.calls t281 t282 t283 t284 none _ A16.out).mono ?_
                                rintro e w40 ⟨rfl, hb⟩
                                refine ⟨_, rfl, ?_⟩
                                have n0_ := Aside0.mk (blk_below (g := gb276) (o := .cells #[.int .i64 t272, .int .i64 t273, .int .i64 t274] 26 (0, 0)) (by (with_reducible repeat (first | refine blk_drewN ?_ _ | refine blk_drew ?_ | refine blk_alloc ?_ _)); exact BK276.out) hb)
                                have n1_ := Aside0.mk (below_step (by repeat (first | (with_reducible first | exact HB.out | apply below_alloc | apply pw_below_drewN | apply below_drew1 | refine below_set ?_ GE276.out) | exact HB.out)) hb)
                                clear BK276
                                clear HB
                                have BK276 := n0_
                                have HB := n1_
                                clear n0_ n1_
                                (try clear hb)
                                (try clear hb2)
                                (try clear hk)
                                (try clear hi)
                                (try simp only [errW_none, errW_some])
                                refine hK.out _ _ trivial (fun hHeld => ?_)
                                clear hK K
                                refine norm_ (a' := ?_) ?_ ?_
                                rotate_left
                                · show Act.put _ (some 45) _ = _
                                  simp only [Act.put, List.setIfInBounds_toArray, List.set_cons_zero, List.set_cons_succ, i64_w, i32_w]
                                  rfl
                                refine pure_ (i := 11) (N := some 34) (v := ?_) (a' := ?_) #[true, true, true, true, true, true, true, true, true, true, true, true, false, false, false, false] rfl rfl (any_of HT_.out (by kernel_rfl)) (fun _ _ _ h => h) (Or.inl ⟨by rfl, ?_⟩) ?_ ?_
                                rotate_left
                                · intro w'
                                  go_simp
                                  with_reducible rfl
                                rotate_left
                                · simp only [Act.put, List.setIfInBounds_toArray, List.set_cons_zero, List.set_cons_succ, i64_w, i32_w]
                                  rfl
                                refine pure_ (i := 12) (N := some 46) (v := ?_) (a' := ?_) #[true, true, true, true, true, true, true, true, true, true, true, true, true, false, false, false] rfl rfl (any_of HT_.out (by kernel_rfl)) (fun _ _ _ h => h) (Or.inl ⟨by rfl, ?_⟩) ?_ ?_
                                rotate_left
                                · intro w'
                                  go_simp
                                  with_reducible rfl
                                rotate_left
                                · simp only [Act.put, List.setIfInBounds_toArray, List.set_cons_zero, List.set_cons_succ, i64_w, i32_w]
                                  rfl
                                refine pure_ (i := 13) (N := some 47) (v := ?_) (a' := ?_) #[true, true, true, true, true, true, true, true, true, true, true, true, true, true, false, false] rfl rfl (any_of HT_.out (by kernel_rfl)) (fun _ _ _ h => h) (Or.inl ⟨by rfl, ?_⟩) ?_ ?_
                                rotate_left
                                · intro w'
                                  go_simp
                                  with_reducible rfl
                                rotate_left
                                · simp only [Act.put, List.setIfInBounds_toArray, List.set_cons_zero, List.set_cons_succ, i64_w, i32_w]
                                  rfl
                                refine pure_ (i := 14) (N := some 9) (v := ?_) (a' := ?_) #[true, true, true, true, true, true, true, true, true, true, true, true, true, true, true, false] rfl rfl (any_of HT_.out (by kernel_rfl)) (fun _ _ _ h => h) (Or.inl ⟨by rfl, ?_⟩) ?_ ?_
                                rotate_left
                                · intro w'
                                  go_simp
                                  with_reducible rfl
                                rotate_left
                                · simp only [Act.put, List.setIfInBounds_toArray, List.set_cons_zero, List.set_cons_succ, i64_w, i32_w]
                                  rfl
                                refine pure_ (i := 15) (N := some 7) (v := ?_) (a' := ?_) #[true, true, true, true, true, true, true, true, true, true, true, true, true, true, true, true] rfl rfl (any_of HT_.out (by kernel_rfl)) (fun _ _ _ h => h) (Or.inl ⟨by rfl, ?_⟩) ?_ ?_
                                rotate_left
                                · intro w'
                                  go_simp
                                  with_reducible rfl
                                rotate_left
                                · simp only [Act.put, List.setIfInBounds_toArray, List.set_cons_zero, List.set_cons_succ, i64_w, i32_w]
                                  rfl
                                refine done_ (done_of HT_.out (by kernel_rfl)) ?_
                                try go_wp2_with (first | ((with_reducible refine gate_callee (f := 101) rfl ?_); refine goesL_ (some 53) rfl rfl Tryz.func101 (by kernel_rfl) rfl #[.string (a0.extract 20 a0.size)] rfl (by (try simp only [List.map_toArray, List.map_cons, List.map_nil]); first | done | rfl | (simp only [List.length_drop, List.length_take]; rfl)) ?_; (with_reducible refine (daytime_number.calls (a0.extract 20 a0.size) t287 _ (by first | exact Laid.below HL.out (by repeat (first | (with_reducible first | exact HB.out | apply below_alloc | apply pw_below_drewN | apply below_drew1 | refine below_set ?_ (Aside0.out (by assumption))) | exact HB.out))) A18.out).mono ?_); rintro e w41 ⟨rfl, hb⟩; refine ⟨_, rfl, ?_⟩; have n0_ := Aside0.mk (blk_below (g := gb276) (o := .cells #[.int .i64 t272, .int .i64 t273, .int .i64 t274] 26 (0, 0)) (by (with_reducible repeat (first | refine blk_drewN ?_ _ | refine blk_drew ?_ | refine blk_alloc ?_ _)); exact BK276.out) hb); have n1_ := Aside0.mk (below_step (by repeat (first | (with_reducible first | exact HB.out | apply below_alloc | apply pw_below_drewN | apply below_drew1 | refine below_set ?_ GE276.out) | exact HB.out)) hb); clear BK276; clear HB; have BK276 := n0_; have HB := n1_; clear n0_ n1_; (try clear hb); (try clear hb2); (try clear hk); (try clear hi)) | ((with_reducible refine gate_callee (f := 39) rfl ?_); refine goesL_ (some 58) rfl rfl Tryz.func39 (by kernel_rfl) rfl #[.int .i64 t278, .int .i64 t284, .int .i64 t287] rfl (by (try simp only [List.map_toArray, List.map_cons, List.map_nil]); first | done | rfl | (simp only [List.length_drop, List.length_take]; rfl)) ?_; (with_reducible refine (daytime_Stamp.calls k t278 t284 t287 t288 none _ (by first | exact Laid.below HL.out (by repeat (first | (with_reducible first | exact HB.out | apply below_alloc | apply pw_below_drewN | apply below_drew1 | refine below_set ?_ (Aside0.out (by assumption))) | exact HB.out))) A19.out).mono ?_); rintro e w42 ⟨rfl, hb⟩; refine ⟨_, rfl, ?_⟩; have n0_ := Aside0.mk (blk_below (g := gb276) (o := .cells #[.int .i64 t272, .int .i64 t273, .int .i64 t274] 26 (0, 0)) (by (with_reducible repeat (first | refine blk_drewN ?_ _ | refine blk_drew ?_ | refine blk_alloc ?_ _)); exact BK276.out) hb); have n1_ := Aside0.mk (below_step (by repeat (first | (with_reducible first | exact HB.out | apply below_alloc | apply pw_below_drewN | apply below_drew1 | refine below_set ?_ GE276.out) | exact HB.out)) hb); clear BK276; clear HB; have BK276 := n0_; have HB := n1_; clear n0_ n1_; (try clear hb); (try clear hb2); (try clear hk); (try clear hi); (try simp only [errW_none, errW_some])))
                                refine bodyPost_ret (results_list (rs := [.tmp 2, .tmp 3, .tmp 4, .tmp 5]) rfl (by simp) (.tmp (.tmp (.tmp (.tmp .nil))))) rfl ?_
                                exact ⟨by first | rfl | (simp [errW_none, errW_some] <;> rfl) | (simp [*, errW_none, errW_some] <;> rfl), by repeat (first | (with_reducible first | exact HB.out | apply below_alloc | apply pw_below_drewN | apply below_drew1 | refine below_set ?_ GE276.out) | exact HB.out)⟩
                            · rw [if_neg (show ¬ (some q290).isNone = true by simp)] at H
                              try dsimp only [Option.getD_some] at H
                              try simp only [errW_none, errW_some]
                              simp only [Option.some.injEq, Prod.mk.injEq] at H
                              obtain ⟨rfl, rfl, rfl, rfl⟩ := H
                              go_enter Tryz.func41, Tryz.ntmps41
                              try go_wp2_with (first | ((with_reducible refine gate_callee (f := 27) rfl ?_); refine goesL_ (some 20) rfl rfl Tryz.func27 (by kernel_rfl) rfl #[.string (a0.extract 0 10)] rfl (by (try simp only [List.map_toArray, List.map_cons, List.map_nil]); first | done | rfl | (simp only [List.length_drop, List.length_take]; rfl)) ?_; (with_reducible refine (civil_Parse.calls (a0.extract 0 10) t272 t273 t274 none _ (by first | exact Laid.below HL.out (by repeat (first | (with_reducible first | exact HB.out | apply below_alloc | apply pw_below_drewN | apply below_drew1 | refine below_set ?_ (Aside0.out (by assumption))) | exact HB.out))) A5.out).mono ?_); rintro e w43 ⟨rfl, hb⟩; refine ⟨_, rfl, ?_⟩; have n0_ := Aside0.mk (below_step (by repeat (first | (with_reducible first | exact HB.out | apply below_alloc | apply pw_below_drewN | apply below_drew1) | exact HB.out)) hb); clear HB; have HB := n0_; clear n0_; (try clear hb); (try clear hb2); (try clear hk); (try clear hi); (try simp only [errW_none, errW_some])) | ((with_reducible refine gate_dst (N := 6) rfl ?_); refine box_event ?hg (N := 6) ?hd (cs := #[.int .i64 0, .int .i64 0, .int .i64 0]) (t := 26) ?hr ?_; (case hd => rfl); (case hg => rfl); (case hr => first | (go_simp; done) | (go_simp; rfl)); intro gb276 hg w44 hbox hb; have n0_ := Aside0.mk (below_step (by repeat (first | (with_reducible first | exact HB.out | apply below_alloc | apply pw_below_drewN | apply below_drew1) | exact HB.out)) hb); have n1_ := Aside0.mk (hbox); have n2_ := Aside0.mk ((by rw [hg]; exact (below_size (by repeat (first | (with_reducible first | exact HB.out | apply below_alloc | apply pw_below_drewN | apply below_drew1) | exact HB.out))) : w.heap.size ≤ gb276)); have n3_ := Aside0.mk ((by rw [hg]; exact (below_size (by repeat (first | (with_reducible first | exact HB.out | apply below_alloc | apply pw_below_drewN | apply below_drew1) | exact HB.out))) : w.heap.size ≤ gb276)); clear HB; have HB := n0_; have BK276 := n1_; have GW276 := n2_; have GE276 := n3_; clear n0_ n1_ n2_ n3_; clear hb hbox hg; have hcz45_0 : w44.cell? ⟨gb276, 0, none⟩ = some (.int .i64 0) := (blk_cell BK276.out 0).trans rfl; have hcz45_1 : w44.cell? ⟨gb276, 1, none⟩ = some (.int .i64 0) := (blk_cell BK276.out 1).trans rfl; have hcz45_2 : w44.cell? ⟨gb276, 2, none⟩ = some (.int .i64 0) := (blk_cell BK276.out 2).trans rfl; have hfz45_0 := blk_frozen BK276.out 0; have hfz45_1 := blk_frozen BK276.out 1; have hfz45_2 := blk_frozen BK276.out 2) | ((with_reducible refine gate_callee (f := 16) rfl ?_); refine goesL_ (some 28) rfl rfl Tryz.func16 (by kernel_rfl) rfl #[.agg #[.int .i64 t272, .int .i64 t273, .int .i64 t274]] rfl (by (try simp only [List.map_toArray, List.map_cons, List.map_nil]); first | done | rfl | (simp only [List.length_drop, List.length_take]; rfl)) ?_; (with_reducible refine (civil_Days.calls k t272 t273 t274 t278 none _ A6.out).mono ?_); rintro e w46 ⟨rfl, hb⟩; refine ⟨_, rfl, ?_⟩; have n0_ := Aside0.mk (blk_below (g := gb276) (o := .cells #[.int .i64 t272, .int .i64 t273, .int .i64 t274] 26 (0, 0)) (by (with_reducible repeat (first | refine blk_drewN ?_ _ | refine blk_drew ?_ | refine blk_alloc ?_ _)); refine blk_put (cs := #[.int .i64 t272, .int .i64 t273, .int .i64 0]) ?_ 2 _ rfl; (with_reducible repeat (first | refine blk_drewN ?_ _ | refine blk_drew ?_ | refine blk_alloc ?_ _)); refine blk_put (cs := #[.int .i64 t272, .int .i64 0, .int .i64 0]) ?_ 1 _ rfl; (with_reducible repeat (first | refine blk_drewN ?_ _ | refine blk_drew ?_ | refine blk_alloc ?_ _)); refine blk_put (cs := #[.int .i64 0, .int .i64 0, .int .i64 0]) ?_ 0 _ rfl; (with_reducible repeat (first | refine blk_drewN ?_ _ | refine blk_drew ?_ | refine blk_alloc ?_ _)); exact BK276.out) hb); have n1_ := Aside0.mk (below_step (by repeat (first | (with_reducible first | exact HB.out | apply below_alloc | apply pw_below_drewN | apply below_drew1 | refine below_set ?_ GE276.out) | exact HB.out)) hb); clear BK276; clear HB; have BK276 := n0_; have HB := n1_; clear n0_ n1_; (try clear hb); (try clear hb2); (try clear hk); (try clear hi); (try simp only [errW_none, errW_some])))
                              have n0_ := Aside0.mk (blk_drew BK276.out)
                              have n1_ := Aside0.mk (below_drew1 HB.out)
                              clear BK276
                              clear HB
                              have BK276 := n0_
                              have HB := n1_
                              clear n0_ n1_
                              refine start_ (n := 16) (S := fun w' => True) (ds := []) #[false, false, false, false, false, false, false, false, false, false, false, false, false, false, false, false] (by kernel_rfl) rfl rfl trivial (fun hHeld => ?_); refine with_tabW daytime_Parse.tab9 daytime_Parse.bits9 (fun HT_ HW_ => ?_)
                              generalize w46.drew = w47 at BK276 HB hHeld ⊢
                              refine pure_ (i := 0) (N := some 35) (v := ?_) (a' := ?_) #[true, false, false, false, false, false, false, false, false, false, false, false, false, false, false, false] rfl rfl (any_of HT_.out (by kernel_rfl)) (fun _ _ _ h => h) (Or.inl ⟨by rfl, ?_⟩) ?_ ?_
                              rotate_left
                              · intro w'
                                go_simp
                                with_reducible rfl
                              rotate_left
                              · simp only [Act.put, List.setIfInBounds_toArray, List.set_cons_zero, List.set_cons_succ, i64_w, i32_w]
                                rfl
                              refine pure_ (i := 1) (N := some 36) (v := ?_) (a' := ?_) #[true, true, false, false, false, false, false, false, false, false, false, false, false, false, false, false] rfl rfl (any_of HT_.out (by kernel_rfl)) (fun _ _ _ h => h) (Or.inl ⟨by rfl, ?_⟩) ?_ ?_
                              rotate_left
                              · intro w'
                                go_simp
                                with_reducible rfl
                              rotate_left
                              · simp only [Act.put, List.setIfInBounds_toArray, List.set_cons_zero, List.set_cons_succ, i64_w, i32_w]
                                rfl
                              refine pure_ (i := 3) (N := some 38) (v := ?_) (a' := ?_) #[true, true, false, true, false, false, false, false, false, false, false, false, false, false, false, false] rfl rfl (any_of HT_.out (by kernel_rfl)) (fun _ _ _ h => h) (Or.inl ⟨by rfl, ?_⟩) ?_ ?_
                              rotate_left
                              · intro w'
                                go_simp
                                with_reducible rfl
                              rotate_left
                              · simp only [Act.put, List.setIfInBounds_toArray, List.set_cons_zero, List.set_cons_succ, i64_w, i32_w]
                                rfl
                              refine pure_ (i := 4) (N := some 39) (v := ?_) (a' := ?_) #[true, true, false, true, true, false, false, false, false, false, false, false, false, false, false, false] rfl rfl (any_of HT_.out (by kernel_rfl)) (fun _ _ _ h => h) (Or.inl ⟨by rfl, ?_⟩) ?_ ?_
                              rotate_left
                              · intro w'
                                go_simp
                                with_reducible rfl
                              rotate_left
                              · simp only [Act.put, List.setIfInBounds_toArray, List.set_cons_zero, List.set_cons_succ, i64_w, i32_w]
                                rfl
                              refine pure_ (i := 6) (N := some 41) (v := ?_) (a' := ?_) #[true, true, false, true, true, false, true, false, false, false, false, false, false, false, false, false] rfl rfl (any_of HT_.out (by kernel_rfl)) (fun _ _ _ h => h) (Or.inl ⟨by rfl, ?_⟩) ?_ ?_
                              rotate_left
                              · intro w'
                                go_simp
                                with_reducible rfl
                              rotate_left
                              · simp only [Act.put, List.setIfInBounds_toArray, List.set_cons_zero, List.set_cons_succ, i64_w, i32_w]
                                rfl
                              refine pure_ (i := 7) (N := some 42) (v := ?_) (a' := ?_) #[true, true, false, true, true, false, true, true, false, false, false, false, false, false, false, false] rfl rfl (any_of HT_.out (by kernel_rfl)) (fun _ _ _ h => h) (Or.inl ⟨by rfl, ?_⟩) ?_ ?_
                              rotate_left
                              · intro w'
                                go_simp
                                with_reducible rfl
                              rotate_left
                              · simp only [Act.put, List.setIfInBounds_toArray, List.set_cons_zero, List.set_cons_succ, i64_w, i32_w]
                                rfl
                              refine one_ (i := 2) (N := some 37) #[true, true, true, true, true, false, true, true, false, false, false, false, false, false, false, false] rfl rfl (one_of HT_.out (by kernel_rfl)) (by decide) (fun K hK => ?_)
                              refine goes_ Tryz.func101 (by kernel_rfl) rfl #[.string (a0.extract 11 13)] (by rfl) rfl rfl (by (try simp only [List.map_toArray, List.map_cons, List.map_nil]); first | done | rfl | (simp only [List.length_drop, List.length_take]; rfl)) ?_
                              with_reducible refine (daytime_number.calls (a0.extract 11 13) t281 _ (by first | exact Laid.below HL.out (by repeat (first | (with_reducible first | exact HB.out | apply below_alloc | apply pw_below_drewN | apply below_drew1 | refine below_set ?_ (Aside0.out (by assumption))) | exact HB.out))) A9.out).mono ?_
                              rintro e w48 ⟨rfl, hb⟩
                              refine ⟨_, rfl, ?_⟩
                              have n0_ := Aside0.mk (blk_below (g := gb276) (o := .cells #[.int .i64 t272, .int .i64 t273, .int .i64 t274] 26 (0, 0)) (by (with_reducible repeat (first | refine blk_drewN ?_ _ | refine blk_drew ?_ | refine blk_alloc ?_ _)); exact BK276.out) hb)
                              have n1_ := Aside0.mk (below_step (by repeat (first | (with_reducible first | exact HB.out | apply below_alloc | apply pw_below_drewN | apply below_drew1 | refine below_set ?_ GE276.out) | exact HB.out)) hb)
                              clear BK276
                              clear HB
                              have BK276 := n0_
                              have HB := n1_
                              clear n0_ n1_
                              (try clear hb)
                              (try clear hb2)
                              (try clear hk)
                              (try clear hi)
                              refine hK.out _ _ trivial (fun hHeld => ?_)
                              clear hK K
                              refine norm_ (a' := ?_) ?_ ?_
                              rotate_left
                              · show Act.put _ (some 37) _ = _
                                simp only [Act.put, List.setIfInBounds_toArray, List.set_cons_zero, List.set_cons_succ, i64_w, i32_w]
                                rfl
                              refine one_ (i := 5) (N := some 40) #[true, true, true, true, true, true, true, true, false, false, false, false, false, false, false, false] rfl rfl (one_of HT_.out (by kernel_rfl)) (by decide) (fun K hK => ?_)
                              refine goes_ Tryz.func101 (by kernel_rfl) rfl #[.string (a0.extract 14 16)] (by rfl) rfl rfl (by (try simp only [List.map_toArray, List.map_cons, List.map_nil]); first | done | rfl | (simp only [List.length_drop, List.length_take]; rfl)) ?_
                              with_reducible refine (daytime_number.calls (a0.extract 14 16) t282 _ (by first | exact Laid.below HL.out (by repeat (first | (with_reducible first | exact HB.out | apply below_alloc | apply pw_below_drewN | apply below_drew1 | refine below_set ?_ (Aside0.out (by assumption))) | exact HB.out))) A12.out).mono ?_
                              rintro e w49 ⟨rfl, hb⟩
                              refine ⟨_, rfl, ?_⟩
                              have n0_ := Aside0.mk (blk_below (g := gb276) (o := .cells #[.int .i64 t272, .int .i64 t273, .int .i64 t274] 26 (0, 0)) (by (with_reducible repeat (first | refine blk_drewN ?_ _ | refine blk_drew ?_ | refine blk_alloc ?_ _)); exact BK276.out) hb)
                              have n1_ := Aside0.mk (below_step (by repeat (first | (with_reducible first | exact HB.out | apply below_alloc | apply pw_below_drewN | apply below_drew1 | refine below_set ?_ GE276.out) | exact HB.out)) hb)
                              clear BK276
                              clear HB
                              have BK276 := n0_
                              have HB := n1_
                              clear n0_ n1_
                              (try clear hb)
                              (try clear hb2)
                              (try clear hk)
                              (try clear hi)
                              refine hK.out _ _ trivial (fun hHeld => ?_)
                              clear hK K
                              refine norm_ (a' := ?_) ?_ ?_
                              rotate_left
                              · show Act.put _ (some 40) _ = _
                                simp only [Act.put, List.setIfInBounds_toArray, List.set_cons_zero, List.set_cons_succ, i64_w, i32_w]
                                rfl
                              refine one_ (i := 8) (N := some 43) #[true, true, true, true, true, true, true, true, true, false, false, false, false, false, false, false] rfl rfl (one_of HT_.out (by kernel_rfl)) (by decide) (fun K hK => ?_)
                              refine goes_ Tryz.func101 (by kernel_rfl) rfl #[.string (a0.extract 17 19)] (by rfl) rfl rfl (by (try simp only [List.map_toArray, List.map_cons, List.map_nil]); first | done | rfl | (simp only [List.length_drop, List.length_take]; rfl)) ?_
                              with_reducible refine (daytime_number.calls (a0.extract 17 19) t283 _ (by first | exact Laid.below HL.out (by repeat (first | (with_reducible first | exact HB.out | apply below_alloc | apply pw_below_drewN | apply below_drew1 | refine below_set ?_ (Aside0.out (by assumption))) | exact HB.out))) A15.out).mono ?_
                              rintro e w50 ⟨rfl, hb⟩
                              refine ⟨_, rfl, ?_⟩
                              have n0_ := Aside0.mk (blk_below (g := gb276) (o := .cells #[.int .i64 t272, .int .i64 t273, .int .i64 t274] 26 (0, 0)) (by (with_reducible repeat (first | refine blk_drewN ?_ _ | refine blk_drew ?_ | refine blk_alloc ?_ _)); exact BK276.out) hb)
                              have n1_ := Aside0.mk (below_step (by repeat (first | (with_reducible first | exact HB.out | apply below_alloc | apply pw_below_drewN | apply below_drew1 | refine below_set ?_ GE276.out) | exact HB.out)) hb)
                              clear BK276
                              clear HB
                              have BK276 := n0_
                              have HB := n1_
                              clear n0_ n1_
                              (try clear hb)
                              (try clear hb2)
                              (try clear hk)
                              (try clear hi)
                              refine hK.out _ _ trivial (fun hHeld => ?_)
                              clear hK K
                              refine norm_ (a' := ?_) ?_ ?_
                              rotate_left
                              · show Act.put _ (some 43) _ = _
                                simp only [Act.put, List.setIfInBounds_toArray, List.set_cons_zero, List.set_cons_succ, i64_w, i32_w]
                                rfl
                              refine pure_ (i := 9) (N := some 44) (v := ?_) (a' := ?_) #[true, true, true, true, true, true, true, true, true, true, false, false, false, false, false, false] rfl rfl (any_of HT_.out (by kernel_rfl)) (fun _ _ _ h => h) (Or.inl ⟨by rfl, ?_⟩) ?_ ?_
                              rotate_left
                              · intro w'
                                go_simp
                                with_reducible rfl
                              rotate_left
                              · simp only [Act.put, List.setIfInBounds_toArray, List.set_cons_zero, List.set_cons_succ, i64_w, i32_w]
                                rfl
                              refine one_ (i := 10) (N := some 45) #[true, true, true, true, true, true, true, true, true, true, true, false, false, false, false, false] rfl rfl (one_of HT_.out (by kernel_rfl)) (by decide) (fun K hK => ?_)
                              refine goes_ Tryz.func32 (by kernel_rfl) rfl #[.agg #[.int .i64 t281, .int .i64 t282, .int .i64 t283]] (by rfl) rfl rfl (by (try simp only [List.map_toArray, List.map_cons, List.map_nil]); first | done | rfl | (simp only [List.length_drop, List.length_take]; rfl)) ?_
                              with_reducible refine (daytime_Seconds.calls t281 t282 t283 t284 none _ A16.out).mono ?_
                              rintro e w51 ⟨rfl, hb⟩
                              refine ⟨_, rfl, ?_⟩
                              have n0_ := Aside0.mk (blk_below (g := gb276) (o := .cells #[.int .i64 t272, .int .i64 t273, .int .i64 t274] 26 (0, 0)) (by (with_reducible repeat (first | refine blk_drewN ?_ _ | refine blk_drew ?_ | refine blk_alloc ?_ _)); exact BK276.out) hb)
                              have n1_ := Aside0.mk (below_step (by repeat (first | (with_reducible first | exact HB.out | apply below_alloc | apply pw_below_drewN | apply below_drew1 | refine below_set ?_ GE276.out) | exact HB.out)) hb)
                              clear BK276
                              clear HB
                              have BK276 := n0_
                              have HB := n1_
                              clear n0_ n1_
                              (try clear hb)
                              (try clear hb2)
                              (try clear hk)
                              (try clear hi)
                              (try simp only [errW_none, errW_some])
                              refine hK.out _ _ trivial (fun hHeld => ?_)
                              clear hK K
                              refine norm_ (a' := ?_) ?_ ?_
                              rotate_left
                              · show Act.put _ (some 45) _ = _
                                simp only [Act.put, List.setIfInBounds_toArray, List.set_cons_zero, List.set_cons_succ, i64_w, i32_w]
                                rfl
                              refine pure_ (i := 11) (N := some 34) (v := ?_) (a' := ?_) #[true, true, true, true, true, true, true, true, true, true, true, true, false, false, false, false] rfl rfl (any_of HT_.out (by kernel_rfl)) (fun _ _ _ h => h) (Or.inl ⟨by rfl, ?_⟩) ?_ ?_
                              rotate_left
                              · intro w'
                                go_simp
                                with_reducible rfl
                              rotate_left
                              · simp only [Act.put, List.setIfInBounds_toArray, List.set_cons_zero, List.set_cons_succ, i64_w, i32_w]
                                rfl
                              refine pure_ (i := 12) (N := some 46) (v := ?_) (a' := ?_) #[true, true, true, true, true, true, true, true, true, true, true, true, true, false, false, false] rfl rfl (any_of HT_.out (by kernel_rfl)) (fun _ _ _ h => h) (Or.inl ⟨by rfl, ?_⟩) ?_ ?_
                              rotate_left
                              · intro w'
                                go_simp
                                with_reducible rfl
                              rotate_left
                              · simp only [Act.put, List.setIfInBounds_toArray, List.set_cons_zero, List.set_cons_succ, i64_w, i32_w]
                                rfl
                              refine pure_ (i := 13) (N := some 47) (v := ?_) (a' := ?_) #[true, true, true, true, true, true, true, true, true, true, true, true, true, true, false, false] rfl rfl (any_of HT_.out (by kernel_rfl)) (fun _ _ _ h => h) (Or.inl ⟨by rfl, ?_⟩) ?_ ?_
                              rotate_left
                              · intro w'
                                go_simp
                                with_reducible rfl
                              rotate_left
                              · simp only [Act.put, List.setIfInBounds_toArray, List.set_cons_zero, List.set_cons_succ, i64_w, i32_w]
                                rfl
                              refine pure_ (i := 14) (N := some 9) (v := ?_) (a' := ?_) #[true, true, true, true, true, true, true, true, true, true, true, true, true, true, true, false] rfl rfl (any_of HT_.out (by kernel_rfl)) (fun _ _ _ h => h) (Or.inl ⟨by rfl, ?_⟩) ?_ ?_
                              rotate_left
                              · intro w'
                                go_simp
                                with_reducible rfl
                              rotate_left
                              · simp only [Act.put, List.setIfInBounds_toArray, List.set_cons_zero, List.set_cons_succ, i64_w, i32_w]
                                rfl
                              refine pure_ (i := 15) (N := some 7) (v := ?_) (a' := ?_) #[true, true, true, true, true, true, true, true, true, true, true, true, true, true, true, true] rfl rfl (any_of HT_.out (by kernel_rfl)) (fun _ _ _ h => h) (Or.inl ⟨by rfl, ?_⟩) ?_ ?_
                              rotate_left
                              · intro w'
                                go_simp
                                with_reducible rfl
                              rotate_left
                              · simp only [Act.put, List.setIfInBounds_toArray, List.set_cons_zero, List.set_cons_succ, i64_w, i32_w]
                                rfl
                              refine done_ (done_of HT_.out (by kernel_rfl)) ?_
                              try go_wp2_with (first | ((with_reducible refine gate_callee (f := 101) rfl ?_); refine goesL_ (some 53) rfl rfl Tryz.func101 (by kernel_rfl) rfl #[.string (a0.extract 20 a0.size)] rfl (by (try simp only [List.map_toArray, List.map_cons, List.map_nil]); first | done | rfl | (simp only [List.length_drop, List.length_take]; rfl)) ?_; (with_reducible refine (daytime_number.calls (a0.extract 20 a0.size) t287 _ (by first | exact Laid.below HL.out (by repeat (first | (with_reducible first | exact HB.out | apply below_alloc | apply pw_below_drewN | apply below_drew1 | refine below_set ?_ (Aside0.out (by assumption))) | exact HB.out))) A18.out).mono ?_); rintro e w52 ⟨rfl, hb⟩; refine ⟨_, rfl, ?_⟩; have n0_ := Aside0.mk (blk_below (g := gb276) (o := .cells #[.int .i64 t272, .int .i64 t273, .int .i64 t274] 26 (0, 0)) (by (with_reducible repeat (first | refine blk_drewN ?_ _ | refine blk_drew ?_ | refine blk_alloc ?_ _)); exact BK276.out) hb); have n1_ := Aside0.mk (below_step (by repeat (first | (with_reducible first | exact HB.out | apply below_alloc | apply pw_below_drewN | apply below_drew1 | refine below_set ?_ GE276.out) | exact HB.out)) hb); clear BK276; clear HB; have BK276 := n0_; have HB := n1_; clear n0_ n1_; (try clear hb); (try clear hb2); (try clear hk); (try clear hi)) | ((with_reducible refine gate_callee (f := 39) rfl ?_); refine goesL_ (some 58) rfl rfl Tryz.func39 (by kernel_rfl) rfl #[.int .i64 t278, .int .i64 t284, .int .i64 t287] rfl (by (try simp only [List.map_toArray, List.map_cons, List.map_nil]); first | done | rfl | (simp only [List.length_drop, List.length_take]; rfl)) ?_; (with_reducible refine (daytime_Stamp.calls k t278 t284 t287 t288 (some q290) _ (by first | exact Laid.below HL.out (by repeat (first | (with_reducible first | exact HB.out | apply below_alloc | apply pw_below_drewN | apply below_drew1 | refine below_set ?_ (Aside0.out (by assumption))) | exact HB.out))) A19.out).mono ?_); rintro e w53 ⟨rfl, hb⟩; refine ⟨_, rfl, ?_⟩; have n0_ := Aside0.mk (blk_below (g := gb276) (o := .cells #[.int .i64 t272, .int .i64 t273, .int .i64 t274] 26 (0, 0)) (by (with_reducible repeat (first | refine blk_drewN ?_ _ | refine blk_drew ?_ | refine blk_alloc ?_ _)); exact BK276.out) hb); have n1_ := Aside0.mk (below_step (by repeat (first | (with_reducible first | exact HB.out | apply below_alloc | apply pw_below_drewN | apply below_drew1 | refine below_set ?_ GE276.out) | exact HB.out)) hb); clear BK276; clear HB; have BK276 := n0_; have HB := n1_; clear n0_ n1_; (try clear hb); (try clear hb2); (try clear hk); (try clear hi); (try simp only [errW_none, errW_some])))
                              refine bodyPost_ret (results_list (rs := [.tmp 2, .tmp 3, .tmp 4, .tmp 5]) rfl (by simp) (.tmp (.tmp (.tmp (.tmp .nil))))) rfl ?_
                              exact ⟨by first | rfl | (simp [errW_none, errW_some] <;> rfl) | (simp [*, errW_none, errW_some] <;> rfl), by repeat (first | (with_reducible first | exact HB.out | apply below_alloc | apply pw_below_drewN | apply below_drew1 | refine below_set ?_ GE276.out) | exact HB.out)⟩
                          · rw [if_neg c17] at H
                            exact absurd H (by simp)
                        · rw [if_neg (show ¬ (some q286).isNone = true by simp)] at H
                          try dsimp only [Option.getD_some] at H
                          try simp only [errW_none, errW_some]
                          simp only [Option.some.injEq, Prod.mk.injEq] at H
                          obtain ⟨rfl, rfl, rfl, rfl⟩ := H
                          go_enter Tryz.func41, Tryz.ntmps41
                          try go_wp2_with (first | ((with_reducible refine gate_callee (f := 27) rfl ?_); refine goesL_ (some 20) rfl rfl Tryz.func27 (by kernel_rfl) rfl #[.string (a0.extract 0 10)] rfl (by (try simp only [List.map_toArray, List.map_cons, List.map_nil]); first | done | rfl | (simp only [List.length_drop, List.length_take]; rfl)) ?_; (with_reducible refine (civil_Parse.calls (a0.extract 0 10) t272 t273 t274 none _ (by first | exact Laid.below HL.out (by repeat (first | (with_reducible first | exact HB.out | apply below_alloc | apply pw_below_drewN | apply below_drew1 | refine below_set ?_ (Aside0.out (by assumption))) | exact HB.out))) A5.out).mono ?_); rintro e w54 ⟨rfl, hb⟩; refine ⟨_, rfl, ?_⟩; have n0_ := Aside0.mk (below_step (by repeat (first | (with_reducible first | exact HB.out | apply below_alloc | apply pw_below_drewN | apply below_drew1) | exact HB.out)) hb); clear HB; have HB := n0_; clear n0_; (try clear hb); (try clear hb2); (try clear hk); (try clear hi); (try simp only [errW_none, errW_some])) | ((with_reducible refine gate_dst (N := 6) rfl ?_); refine box_event ?hg (N := 6) ?hd (cs := #[.int .i64 0, .int .i64 0, .int .i64 0]) (t := 26) ?hr ?_; (case hd => rfl); (case hg => rfl); (case hr => first | (go_simp; done) | (go_simp; rfl)); intro gb276 hg w55 hbox hb; have n0_ := Aside0.mk (below_step (by repeat (first | (with_reducible first | exact HB.out | apply below_alloc | apply pw_below_drewN | apply below_drew1) | exact HB.out)) hb); have n1_ := Aside0.mk (hbox); have n2_ := Aside0.mk ((by rw [hg]; exact (below_size (by repeat (first | (with_reducible first | exact HB.out | apply below_alloc | apply pw_below_drewN | apply below_drew1) | exact HB.out))) : w.heap.size ≤ gb276)); have n3_ := Aside0.mk ((by rw [hg]; exact (below_size (by repeat (first | (with_reducible first | exact HB.out | apply below_alloc | apply pw_below_drewN | apply below_drew1) | exact HB.out))) : w.heap.size ≤ gb276)); clear HB; have HB := n0_; have BK276 := n1_; have GW276 := n2_; have GE276 := n3_; clear n0_ n1_ n2_ n3_; clear hb hbox hg; have hcz56_0 : w55.cell? ⟨gb276, 0, none⟩ = some (.int .i64 0) := (blk_cell BK276.out 0).trans rfl; have hcz56_1 : w55.cell? ⟨gb276, 1, none⟩ = some (.int .i64 0) := (blk_cell BK276.out 1).trans rfl; have hcz56_2 : w55.cell? ⟨gb276, 2, none⟩ = some (.int .i64 0) := (blk_cell BK276.out 2).trans rfl; have hfz56_0 := blk_frozen BK276.out 0; have hfz56_1 := blk_frozen BK276.out 1; have hfz56_2 := blk_frozen BK276.out 2) | ((with_reducible refine gate_callee (f := 16) rfl ?_); refine goesL_ (some 28) rfl rfl Tryz.func16 (by kernel_rfl) rfl #[.agg #[.int .i64 t272, .int .i64 t273, .int .i64 t274]] rfl (by (try simp only [List.map_toArray, List.map_cons, List.map_nil]); first | done | rfl | (simp only [List.length_drop, List.length_take]; rfl)) ?_; (with_reducible refine (civil_Days.calls k t272 t273 t274 t278 none _ A6.out).mono ?_); rintro e w57 ⟨rfl, hb⟩; refine ⟨_, rfl, ?_⟩; have n0_ := Aside0.mk (blk_below (g := gb276) (o := .cells #[.int .i64 t272, .int .i64 t273, .int .i64 t274] 26 (0, 0)) (by (with_reducible repeat (first | refine blk_drewN ?_ _ | refine blk_drew ?_ | refine blk_alloc ?_ _)); refine blk_put (cs := #[.int .i64 t272, .int .i64 t273, .int .i64 0]) ?_ 2 _ rfl; (with_reducible repeat (first | refine blk_drewN ?_ _ | refine blk_drew ?_ | refine blk_alloc ?_ _)); refine blk_put (cs := #[.int .i64 t272, .int .i64 0, .int .i64 0]) ?_ 1 _ rfl; (with_reducible repeat (first | refine blk_drewN ?_ _ | refine blk_drew ?_ | refine blk_alloc ?_ _)); refine blk_put (cs := #[.int .i64 0, .int .i64 0, .int .i64 0]) ?_ 0 _ rfl; (with_reducible repeat (first | refine blk_drewN ?_ _ | refine blk_drew ?_ | refine blk_alloc ?_ _)); exact BK276.out) hb); have n1_ := Aside0.mk (below_step (by repeat (first | (with_reducible first | exact HB.out | apply below_alloc | apply pw_below_drewN | apply below_drew1 | refine below_set ?_ GE276.out) | exact HB.out)) hb); clear BK276; clear HB; have BK276 := n0_; have HB := n1_; clear n0_ n1_; (try clear hb); (try clear hb2); (try clear hk); (try clear hi); (try simp only [errW_none, errW_some])))
                          have n0_ := Aside0.mk (blk_drew BK276.out)
                          have n1_ := Aside0.mk (below_drew1 HB.out)
                          clear BK276
                          clear HB
                          have BK276 := n0_
                          have HB := n1_
                          clear n0_ n1_
                          refine start_ (n := 16) (S := fun w' => True) (ds := []) #[false, false, false, false, false, false, false, false, false, false, false, false, false, false, false, false] (by kernel_rfl) rfl rfl trivial (fun hHeld => ?_); refine with_tabW daytime_Parse.tab9 daytime_Parse.bits9 (fun HT_ HW_ => ?_)
                          generalize w57.drew = w58 at BK276 HB hHeld ⊢
                          refine pure_ (i := 0) (N := some 35) (v := ?_) (a' := ?_) #[true, false, false, false, false, false, false, false, false, false, false, false, false, false, false, false] rfl rfl (any_of HT_.out (by kernel_rfl)) (fun _ _ _ h => h) (Or.inl ⟨by rfl, ?_⟩) ?_ ?_
                          rotate_left
                          · intro w'
                            go_simp
                            with_reducible rfl
                          rotate_left
                          · simp only [Act.put, List.setIfInBounds_toArray, List.set_cons_zero, List.set_cons_succ, i64_w, i32_w]
                            rfl
                          refine pure_ (i := 1) (N := some 36) (v := ?_) (a' := ?_) #[true, true, false, false, false, false, false, false, false, false, false, false, false, false, false, false] rfl rfl (any_of HT_.out (by kernel_rfl)) (fun _ _ _ h => h) (Or.inl ⟨by rfl, ?_⟩) ?_ ?_
                          rotate_left
                          · intro w'
                            go_simp
                            with_reducible rfl
                          rotate_left
                          · simp only [Act.put, List.setIfInBounds_toArray, List.set_cons_zero, List.set_cons_succ, i64_w, i32_w]
                            rfl
                          refine pure_ (i := 3) (N := some 38) (v := ?_) (a' := ?_) #[true, true, false, true, false, false, false, false, false, false, false, false, false, false, false, false] rfl rfl (any_of HT_.out (by kernel_rfl)) (fun _ _ _ h => h) (Or.inl ⟨by rfl, ?_⟩) ?_ ?_
                          rotate_left
                          · intro w'
                            go_simp
                            with_reducible rfl
                          rotate_left
                          · simp only [Act.put, List.setIfInBounds_toArray, List.set_cons_zero, List.set_cons_succ, i64_w, i32_w]
                            rfl
                          refine pure_ (i := 4) (N := some 39) (v := ?_) (a' := ?_) #[true, true, false, true, true, false, false, false, false, false, false, false, false, false, false, false] rfl rfl (any_of HT_.out (by kernel_rfl)) (fun _ _ _ h => h) (Or.inl ⟨by rfl, ?_⟩) ?_ ?_
                          rotate_left
                          · intro w'
                            go_simp
                            with_reducible rfl
                          rotate_left
                          · simp only [Act.put, List.setIfInBounds_toArray, List.set_cons_zero, List.set_cons_succ, i64_w, i32_w]
                            rfl
                          refine pure_ (i := 6) (N := some 41) (v := ?_) (a' := ?_) #[true, true, false, true, true, false, true, false, false, false, false, false, false, false, false, false] rfl rfl (any_of HT_.out (by kernel_rfl)) (fun _ _ _ h => h) (Or.inl ⟨by rfl, ?_⟩) ?_ ?_
                          rotate_left
                          · intro w'
                            go_simp
                            with_reducible rfl
                          rotate_left
                          · simp only [Act.put, List.setIfInBounds_toArray, List.set_cons_zero, List.set_cons_succ, i64_w, i32_w]
                            rfl
                          refine pure_ (i := 7) (N := some 42) (v := ?_) (a' := ?_) #[true, true, false, true, true, false, true, true, false, false, false, false, false, false, false, false] rfl rfl (any_of HT_.out (by kernel_rfl)) (fun _ _ _ h => h) (Or.inl ⟨by rfl, ?_⟩) ?_ ?_
                          rotate_left
                          · intro w'
                            go_simp
                            with_reducible rfl
                          rotate_left
                          · simp only [Act.put, List.setIfInBounds_toArray, List.set_cons_zero, List.set_cons_succ, i64_w, i32_w]
                            rfl
                          refine one_ (i := 2) (N := some 37) #[true, true, true, true, true, false, true, true, false, false, false, false, false, false, false, false] rfl rfl (one_of HT_.out (by kernel_rfl)) (by decide) (fun K hK => ?_)
                          refine goes_ Tryz.func101 (by kernel_rfl) rfl #[.string (a0.extract 11 13)] (by rfl) rfl rfl (by (try simp only [List.map_toArray, List.map_cons, List.map_nil]); first | done | rfl | (simp only [List.length_drop, List.length_take]; rfl)) ?_
                          with_reducible refine (daytime_number.calls (a0.extract 11 13) t281 _ (by first | exact Laid.below HL.out (by repeat (first | (with_reducible first | exact HB.out | apply below_alloc | apply pw_below_drewN | apply below_drew1 | refine below_set ?_ (Aside0.out (by assumption))) | exact HB.out))) A9.out).mono ?_
                          rintro e w59 ⟨rfl, hb⟩
                          refine ⟨_, rfl, ?_⟩
                          have n0_ := Aside0.mk (blk_below (g := gb276) (o := .cells #[.int .i64 t272, .int .i64 t273, .int .i64 t274] 26 (0, 0)) (by (with_reducible repeat (first | refine blk_drewN ?_ _ | refine blk_drew ?_ | refine blk_alloc ?_ _)); exact BK276.out) hb)
                          have n1_ := Aside0.mk (below_step (by repeat (first | (with_reducible first | exact HB.out | apply below_alloc | apply pw_below_drewN | apply below_drew1 | refine below_set ?_ GE276.out) | exact HB.out)) hb)
                          clear BK276
                          clear HB
                          have BK276 := n0_
                          have HB := n1_
                          clear n0_ n1_
                          (try clear hb)
                          (try clear hb2)
                          (try clear hk)
                          (try clear hi)
                          refine hK.out _ _ trivial (fun hHeld => ?_)
                          clear hK K
                          refine norm_ (a' := ?_) ?_ ?_
                          rotate_left
                          · show Act.put _ (some 37) _ = _
                            simp only [Act.put, List.setIfInBounds_toArray, List.set_cons_zero, List.set_cons_succ, i64_w, i32_w]
                            rfl
                          refine one_ (i := 5) (N := some 40) #[true, true, true, true, true, true, true, true, false, false, false, false, false, false, false, false] rfl rfl (one_of HT_.out (by kernel_rfl)) (by decide) (fun K hK => ?_)
                          refine goes_ Tryz.func101 (by kernel_rfl) rfl #[.string (a0.extract 14 16)] (by rfl) rfl rfl (by (try simp only [List.map_toArray, List.map_cons, List.map_nil]); first | done | rfl | (simp only [List.length_drop, List.length_take]; rfl)) ?_
                          with_reducible refine (daytime_number.calls (a0.extract 14 16) t282 _ (by first | exact Laid.below HL.out (by repeat (first | (with_reducible first | exact HB.out | apply below_alloc | apply pw_below_drewN | apply below_drew1 | refine below_set ?_ (Aside0.out (by assumption))) | exact HB.out))) A12.out).mono ?_
                          rintro e w60 ⟨rfl, hb⟩
                          refine ⟨_, rfl, ?_⟩
                          have n0_ := Aside0.mk (blk_below (g := gb276) (o := .cells #[.int .i64 t272, .int .i64 t273, .int .i64 t274] 26 (0, 0)) (by (with_reducible repeat (first | refine blk_drewN ?_ _ | refine blk_drew ?_ | refine blk_alloc ?_ _)); exact BK276.out) hb)
                          have n1_ := Aside0.mk (below_step (by repeat (first | (with_reducible first | exact HB.out | apply below_alloc | apply pw_below_drewN | apply below_drew1 | refine below_set ?_ GE276.out) | exact HB.out)) hb)
                          clear BK276
                          clear HB
                          have BK276 := n0_
                          have HB := n1_
                          clear n0_ n1_
                          (try clear hb)
                          (try clear hb2)
                          (try clear hk)
                          (try clear hi)
                          refine hK.out _ _ trivial (fun hHeld => ?_)
                          clear hK K
                          refine norm_ (a' := ?_) ?_ ?_
                          rotate_left
                          · show Act.put _ (some 40) _ = _
                            simp only [Act.put, List.setIfInBounds_toArray, List.set_cons_zero, List.set_cons_succ, i64_w, i32_w]
                            rfl
                          refine one_ (i := 8) (N := some 43) #[true, true, true, true, true, true, true, true, true, false, false, false, false, false, false, false] rfl rfl (one_of HT_.out (by kernel_rfl)) (by decide) (fun K hK => ?_)
                          refine goes_ Tryz.func101 (by kernel_rfl) rfl #[.string (a0.extract 17 19)] (by rfl) rfl rfl (by (try simp only [List.map_toArray, List.map_cons, List.map_nil]); first | done | rfl | (simp only [List.length_drop, List.length_take]; rfl)) ?_
                          with_reducible refine (daytime_number.calls (a0.extract 17 19) t283 _ (by first | exact Laid.below HL.out (by repeat (first | (with_reducible first | exact HB.out | apply below_alloc | apply pw_below_drewN | apply below_drew1 | refine below_set ?_ (Aside0.out (by assumption))) | exact HB.out))) A15.out).mono ?_
                          rintro e w61 ⟨rfl, hb⟩
                          refine ⟨_, rfl, ?_⟩
                          have n0_ := Aside0.mk (blk_below (g := gb276) (o := .cells #[.int .i64 t272, .int .i64 t273, .int .i64 t274] 26 (0, 0)) (by (with_reducible repeat (first | refine blk_drewN ?_ _ | refine blk_drew ?_ | refine blk_alloc ?_ _)); exact BK276.out) hb)
                          have n1_ := Aside0.mk (below_step (by repeat (first | (with_reducible first | exact HB.out | apply below_alloc | apply pw_below_drewN | apply below_drew1 | refine below_set ?_ GE276.out) | exact HB.out)) hb)
                          clear BK276
                          clear HB
                          have BK276 := n0_
                          have HB := n1_
                          clear n0_ n1_
                          (try clear hb)
                          (try clear hb2)
                          (try clear hk)
                          (try clear hi)
                          refine hK.out _ _ trivial (fun hHeld => ?_)
                          clear hK K
                          refine norm_ (a' := ?_) ?_ ?_
                          rotate_left
                          · show Act.put _ (some 43) _ = _
                            simp only [Act.put, List.setIfInBounds_toArray, List.set_cons_zero, List.set_cons_succ, i64_w, i32_w]
                            rfl
                          refine pure_ (i := 9) (N := some 44) (v := ?_) (a' := ?_) #[true, true, true, true, true, true, true, true, true, true, false, false, false, false, false, false] rfl rfl (any_of HT_.out (by kernel_rfl)) (fun _ _ _ h => h) (Or.inl ⟨by rfl, ?_⟩) ?_ ?_
                          rotate_left
                          · intro w'
                            go_simp
                            with_reducible rfl
                          rotate_left
                          · simp only [Act.put, List.setIfInBounds_toArray, List.set_cons_zero, List.set_cons_succ, i64_w, i32_w]
                            rfl
                          refine one_ (i := 10) (N := some 45) #[true, true, true, true, true, true, true, true, true, true, true, false, false, false, false, false] rfl rfl (one_of HT_.out (by kernel_rfl)) (by decide) (fun K hK => ?_)
                          refine goes_ Tryz.func32 (by kernel_rfl) rfl #[.agg #[.int .i64 t281, .int .i64 t282, .int .i64 t283]] (by rfl) rfl rfl (by (try simp only [List.map_toArray, List.map_cons, List.map_nil]); first | done | rfl | (simp only [List.length_drop, List.length_take]; rfl)) ?_
                          with_reducible refine (daytime_Seconds.calls t281 t282 t283 t284 (some q286) _ A16.out).mono ?_
                          rintro e w62 ⟨rfl, hb⟩
                          refine ⟨_, rfl, ?_⟩
                          have n0_ := Aside0.mk (blk_below (g := gb276) (o := .cells #[.int .i64 t272, .int .i64 t273, .int .i64 t274] 26 (0, 0)) (by (with_reducible repeat (first | refine blk_drewN ?_ _ | refine blk_drew ?_ | refine blk_alloc ?_ _)); exact BK276.out) hb)
                          have n1_ := Aside0.mk (below_step (by repeat (first | (with_reducible first | exact HB.out | apply below_alloc | apply pw_below_drewN | apply below_drew1 | refine below_set ?_ GE276.out) | exact HB.out)) hb)
                          clear BK276
                          clear HB
                          have BK276 := n0_
                          have HB := n1_
                          clear n0_ n1_
                          (try clear hb)
                          (try clear hb2)
                          (try clear hk)
                          (try clear hi)
                          (try simp only [errW_none, errW_some])
                          refine hK.out _ _ trivial (fun hHeld => ?_)
                          clear hK K
                          refine norm_ (a' := ?_) ?_ ?_
                          rotate_left
                          · show Act.put _ (some 45) _ = _
                            simp only [Act.put, List.setIfInBounds_toArray, List.set_cons_zero, List.set_cons_succ, i64_w, i32_w]
                            rfl
                          refine pure_ (i := 11) (N := some 34) (v := ?_) (a' := ?_) #[true, true, true, true, true, true, true, true, true, true, true, true, false, false, false, false] rfl rfl (any_of HT_.out (by kernel_rfl)) (fun _ _ _ h => h) (Or.inl ⟨by rfl, ?_⟩) ?_ ?_
                          rotate_left
                          · intro w'
                            go_simp
                            with_reducible rfl
                          rotate_left
                          · simp only [Act.put, List.setIfInBounds_toArray, List.set_cons_zero, List.set_cons_succ, i64_w, i32_w]
                            rfl
                          refine pure_ (i := 12) (N := some 46) (v := ?_) (a' := ?_) #[true, true, true, true, true, true, true, true, true, true, true, true, true, false, false, false] rfl rfl (any_of HT_.out (by kernel_rfl)) (fun _ _ _ h => h) (Or.inl ⟨by rfl, ?_⟩) ?_ ?_
                          rotate_left
                          · intro w'
                            go_simp
                            with_reducible rfl
                          rotate_left
                          · simp only [Act.put, List.setIfInBounds_toArray, List.set_cons_zero, List.set_cons_succ, i64_w, i32_w]
                            rfl
                          refine pure_ (i := 13) (N := some 47) (v := ?_) (a' := ?_) #[true, true, true, true, true, true, true, true, true, true, true, true, true, true, false, false] rfl rfl (any_of HT_.out (by kernel_rfl)) (fun _ _ _ h => h) (Or.inl ⟨by rfl, ?_⟩) ?_ ?_
                          rotate_left
                          · intro w'
                            go_simp
                            with_reducible rfl
                          rotate_left
                          · simp only [Act.put, List.setIfInBounds_toArray, List.set_cons_zero, List.set_cons_succ, i64_w, i32_w]
                            rfl
                          refine pure_ (i := 14) (N := some 9) (v := ?_) (a' := ?_) #[true, true, true, true, true, true, true, true, true, true, true, true, true, true, true, false] rfl rfl (any_of HT_.out (by kernel_rfl)) (fun _ _ _ h => h) (Or.inl ⟨by rfl, ?_⟩) ?_ ?_
                          rotate_left
                          · intro w'
                            go_simp
                            with_reducible rfl
                          rotate_left
                          · simp only [Act.put, List.setIfInBounds_toArray, List.set_cons_zero, List.set_cons_succ, i64_w, i32_w]
                            rfl
                          refine pure_ (i := 15) (N := some 7) (v := ?_) (a' := ?_) #[true, true, true, true, true, true, true, true, true, true, true, true, true, true, true, true] rfl rfl (any_of HT_.out (by kernel_rfl)) (fun _ _ _ h => h) (Or.inl ⟨by rfl, ?_⟩) ?_ ?_
                          rotate_left
                          · intro w'
                            go_simp
                            with_reducible rfl
                          rotate_left
                          · simp only [Act.put, List.setIfInBounds_toArray, List.set_cons_zero, List.set_cons_succ, i64_w, i32_w]
                            rfl
                          refine done_ (done_of HT_.out (by kernel_rfl)) ?_
                          try go_wp2
                          refine bodyPost_ret (results_list (rs := [.tmp 2, .tmp 3, .tmp 4, .tmp 5]) rfl (by simp) (.tmp (.tmp (.tmp (.tmp .nil))))) rfl ?_
                          exact ⟨by first | rfl | (simp [errW_none, errW_some] <;> rfl) | (simp [*, errW_none, errW_some] <;> rfl), by repeat (first | (with_reducible first | exact HB.out | apply below_alloc | apply pw_below_drewN | apply below_drew1 | refine below_set ?_ GE276.out) | exact HB.out)⟩
                      · rw [if_neg c14] at H
                        exact absurd H (by simp)
                    · rw [if_neg c13] at H
                      exact absurd H (by simp)
                  · rw [if_neg c11] at H
                    exact absurd H (by simp)
                · rw [if_neg c10] at H
                  exact absurd H (by simp)
              · rw [if_neg c8] at H
                exact absurd H (by simp)
            · rw [if_neg c7] at H
              exact absurd H (by simp)
          · rw [if_neg (show ¬ (some q280).isNone = true by simp)] at H
            try dsimp only [Option.getD_some] at H
            try simp only [errW_none, errW_some]
            simp only [Option.some.injEq, Prod.mk.injEq] at H
            obtain ⟨rfl, rfl, rfl, rfl⟩ := H
            go_enter Tryz.func41, Tryz.ntmps41
            go_wp2_with (first | ((with_reducible refine gate_callee (f := 27) rfl ?_); refine goesL_ (some 20) rfl rfl Tryz.func27 (by kernel_rfl) rfl #[.string (a0.extract 0 10)] rfl (by (try simp only [List.map_toArray, List.map_cons, List.map_nil]); first | done | rfl | (simp only [List.length_drop, List.length_take]; rfl)) ?_; (with_reducible refine (civil_Parse.calls (a0.extract 0 10) t272 t273 t274 none _ (by first | exact Laid.below HL.out (by repeat (first | (with_reducible first | exact HB.out | apply below_alloc | apply pw_below_drewN | apply below_drew1 | refine below_set ?_ (Aside0.out (by assumption))) | exact HB.out))) A5.out).mono ?_); rintro e w63 ⟨rfl, hb⟩; refine ⟨_, rfl, ?_⟩; have n0_ := Aside0.mk (below_step (by repeat (first | (with_reducible first | exact HB.out | apply below_alloc | apply pw_below_drewN | apply below_drew1) | exact HB.out)) hb); clear HB; have HB := n0_; clear n0_; (try clear hb); (try clear hb2); (try clear hk); (try clear hi); (try simp only [errW_none, errW_some])) | ((with_reducible refine gate_dst (N := 6) rfl ?_); refine box_event ?hg (N := 6) ?hd (cs := #[.int .i64 0, .int .i64 0, .int .i64 0]) (t := 26) ?hr ?_; (case hd => rfl); (case hg => rfl); (case hr => first | (go_simp; done) | (go_simp; rfl)); intro gb276 hg w64 hbox hb; have n0_ := Aside0.mk (below_step (by repeat (first | (with_reducible first | exact HB.out | apply below_alloc | apply pw_below_drewN | apply below_drew1) | exact HB.out)) hb); have n1_ := Aside0.mk (hbox); have n2_ := Aside0.mk ((by rw [hg]; exact (below_size (by repeat (first | (with_reducible first | exact HB.out | apply below_alloc | apply pw_below_drewN | apply below_drew1) | exact HB.out))) : w.heap.size ≤ gb276)); have n3_ := Aside0.mk ((by rw [hg]; exact (below_size (by repeat (first | (with_reducible first | exact HB.out | apply below_alloc | apply pw_below_drewN | apply below_drew1) | exact HB.out))) : w.heap.size ≤ gb276)); clear HB; have HB := n0_; have BK276 := n1_; have GW276 := n2_; have GE276 := n3_; clear n0_ n1_ n2_ n3_; clear hb hbox hg; have hcz65_0 : w64.cell? ⟨gb276, 0, none⟩ = some (.int .i64 0) := (blk_cell BK276.out 0).trans rfl; have hcz65_1 : w64.cell? ⟨gb276, 1, none⟩ = some (.int .i64 0) := (blk_cell BK276.out 1).trans rfl; have hcz65_2 : w64.cell? ⟨gb276, 2, none⟩ = some (.int .i64 0) := (blk_cell BK276.out 2).trans rfl; have hfz65_0 := blk_frozen BK276.out 0; have hfz65_1 := blk_frozen BK276.out 1; have hfz65_2 := blk_frozen BK276.out 2) | ((with_reducible refine gate_callee (f := 16) rfl ?_); refine goesL_ (some 28) rfl rfl Tryz.func16 (by kernel_rfl) rfl #[.agg #[.int .i64 t272, .int .i64 t273, .int .i64 t274]] rfl (by (try simp only [List.map_toArray, List.map_cons, List.map_nil]); first | done | rfl | (simp only [List.length_drop, List.length_take]; rfl)) ?_; (with_reducible refine (civil_Days.calls k t272 t273 t274 t278 (some q280) _ A6.out).mono ?_); rintro e w66 ⟨rfl, hb⟩; refine ⟨_, rfl, ?_⟩; have n0_ := Aside0.mk (blk_below (g := gb276) (o := .cells #[.int .i64 t272, .int .i64 t273, .int .i64 t274] 26 (0, 0)) (by (with_reducible repeat (first | refine blk_drewN ?_ _ | refine blk_drew ?_ | refine blk_alloc ?_ _)); refine blk_put (cs := #[.int .i64 t272, .int .i64 t273, .int .i64 0]) ?_ 2 _ rfl; (with_reducible repeat (first | refine blk_drewN ?_ _ | refine blk_drew ?_ | refine blk_alloc ?_ _)); refine blk_put (cs := #[.int .i64 t272, .int .i64 0, .int .i64 0]) ?_ 1 _ rfl; (with_reducible repeat (first | refine blk_drewN ?_ _ | refine blk_drew ?_ | refine blk_alloc ?_ _)); refine blk_put (cs := #[.int .i64 0, .int .i64 0, .int .i64 0]) ?_ 0 _ rfl; (with_reducible repeat (first | refine blk_drewN ?_ _ | refine blk_drew ?_ | refine blk_alloc ?_ _)); exact BK276.out) hb); have n1_ := Aside0.mk (below_step (by repeat (first | (with_reducible first | exact HB.out | apply below_alloc | apply pw_below_drewN | apply below_drew1 | refine below_set ?_ GE276.out) | exact HB.out)) hb); clear BK276; clear HB; have BK276 := n0_; have HB := n1_; clear n0_ n1_; (try clear hb); (try clear hb2); (try clear hk); (try clear hi); (try simp only [errW_none, errW_some])))
            refine bodyPost_ret (results_list (rs := [.tmp 2, .tmp 3, .tmp 4, .tmp 5]) rfl (by simp) (.tmp (.tmp (.tmp (.tmp .nil))))) rfl ?_
            exact ⟨by first | rfl | (simp [errW_none, errW_some] <;> rfl) | (simp [*, errW_none, errW_some] <;> rfl), by repeat (first | (with_reducible first | exact HB.out | apply below_alloc | apply pw_below_drewN | apply below_drew1 | refine below_set ?_ GE276.out) | exact HB.out)⟩
        · rw [if_neg (show ¬ (some q277).isNone = true by simp)] at H
          try dsimp only [Option.getD_some] at H
          try simp only [errW_none, errW_some]
          simp only [Option.some.injEq, Prod.mk.injEq] at H
          obtain ⟨rfl, rfl, rfl, rfl⟩ := H
          go_enter Tryz.func41, Tryz.ntmps41
          go_wp2_with (first | ((with_reducible refine gate_callee (f := 27) rfl ?_); refine goesL_ (some 20) rfl rfl Tryz.func27 (by kernel_rfl) rfl #[.string (a0.extract 0 10)] rfl (by (try simp only [List.map_toArray, List.map_cons, List.map_nil]); first | done | rfl | (simp only [List.length_drop, List.length_take]; rfl)) ?_; (with_reducible refine (civil_Parse.calls (a0.extract 0 10) t272 t273 t274 (some q277) _ (by first | exact Laid.below HL.out (by repeat (first | (with_reducible first | exact HB.out | apply below_alloc | apply pw_below_drewN | apply below_drew1 | refine below_set ?_ (Aside0.out (by assumption))) | exact HB.out))) A5.out).mono ?_); rintro e w67 ⟨rfl, hb⟩; refine ⟨_, rfl, ?_⟩; have n0_ := Aside0.mk (below_step (by repeat (first | (with_reducible first | exact HB.out | apply below_alloc | apply pw_below_drewN | apply below_drew1) | exact HB.out)) hb); clear HB; have HB := n0_; clear n0_; (try clear hb); (try clear hb2); (try clear hk); (try clear hi); (try simp only [errW_none, errW_some])) | ((with_reducible refine gate_dst (N := 6) rfl ?_); refine box_event ?hg (N := 6) ?hd (cs := #[.int .i64 0, .int .i64 0, .int .i64 0]) (t := 26) ?hr ?_; (case hd => rfl); (case hg => rfl); (case hr => first | (go_simp; done) | (go_simp; rfl)); intro gb276 hg w68 hbox hb; have n0_ := Aside0.mk (below_step (by repeat (first | (with_reducible first | exact HB.out | apply below_alloc | apply pw_below_drewN | apply below_drew1) | exact HB.out)) hb); have n1_ := Aside0.mk (hbox); have n2_ := Aside0.mk ((by rw [hg]; exact (below_size (by repeat (first | (with_reducible first | exact HB.out | apply below_alloc | apply pw_below_drewN | apply below_drew1) | exact HB.out))) : w.heap.size ≤ gb276)); have n3_ := Aside0.mk ((by rw [hg]; exact (below_size (by repeat (first | (with_reducible first | exact HB.out | apply below_alloc | apply pw_below_drewN | apply below_drew1) | exact HB.out))) : w.heap.size ≤ gb276)); clear HB; have HB := n0_; have BK276 := n1_; have GW276 := n2_; have GE276 := n3_; clear n0_ n1_ n2_ n3_; clear hb hbox hg; have hcz69_0 : w68.cell? ⟨gb276, 0, none⟩ = some (.int .i64 0) := (blk_cell BK276.out 0).trans rfl; have hcz69_1 : w68.cell? ⟨gb276, 1, none⟩ = some (.int .i64 0) := (blk_cell BK276.out 1).trans rfl; have hcz69_2 : w68.cell? ⟨gb276, 2, none⟩ = some (.int .i64 0) := (blk_cell BK276.out 2).trans rfl; have hfz69_0 := blk_frozen BK276.out 0; have hfz69_1 := blk_frozen BK276.out 1; have hfz69_2 := blk_frozen BK276.out 2))
          refine bodyPost_ret (results_list (rs := [.tmp 2, .tmp 3, .tmp 4, .tmp 5]) rfl (by simp) (.tmp (.tmp (.tmp (.tmp .nil))))) rfl ?_
          exact ⟨by first | rfl | (simp [errW_none, errW_some] <;> rfl) | (simp [*, errW_none, errW_some] <;> rfl), by repeat (first | (with_reducible first | exact HB.out | apply below_alloc | apply pw_below_drewN | apply below_drew1 | refine below_set ?_ GE276.out) | exact HB.out)⟩
      · rw [if_neg c4] at H
        exact absurd H (by simp)
    · rw [if_neg c3] at H
      exact absurd H (by simp)
  · rw [if_neg c2] at H
    have c2b0 : ((a0.size : Int) == 29) = false := beq_eq_false_iff_ne.mpr c2
    have c2b1 : ((a0.size : Int) != 29) = true := bne_iff_ne.mpr c2
    simp only [Option.some.injEq, Prod.mk.injEq] at H
    obtain ⟨rfl, rfl, rfl, rfl⟩ := H
    go_enter Tryz.func41, Tryz.ntmps41
    go_wp2
    refine bodyPost_ret (results_list (rs := [.tmp 2, .tmp 3, .tmp 4, .tmp 5]) rfl (by simp) (.tmp (.tmp (.tmp (.tmp .nil))))) rfl ?_
    exact ⟨by first | rfl | (simp [errW_none, errW_some] <;> rfl) | (simp [*, errW_none, errW_some] <;> rfl), by repeat (first | (with_reducible first | exact HB.out | apply below_alloc | apply pw_below_drewN | apply below_drew1) | exact HB.out)⟩

end Go.Proofs.YtfjifhkgifefeaaGreatDoor.PA
end

section
namespace Go.Proofs.YtfjifhkgifefeaaGreatDoor.PA
open Go.Proofs.YtfjifhkgifefeaaGreatDoor.Giv Go.RowKit Go.Proofs.YtfjifhkgifefeaaGreatDoorW.PrintWords Go.Proofs.YtfjifhkgifefeaaGreatDoorW.PrintLast Go.Proofs.YtfjifhkgifefeaaGreatDoorW.PrintMore
attribute [local go_sem] max2_int min2_int max_two min_two max_three min_three max_four min_four   -- for this text's walks alone
set_option linter.unusedVariables false
set_option linter.unusedSimpArgs false

/-! ### fuseeref08_Seconds: function 34 -/
def fuseeref08_Seconds.j0 : Nat → Bool → Int → Int → Int → Option (Int)
  | 0, _, _, _, _ => none
  | k + 1, x15, x251000, x251001, x251002 => if x15 = true then (some 86400) else (if x251000 < 0 then (some (-1)) else (if x251000 > 23 then (some (-1)) else (if x251001 < 0 then (some (-1)) else (if x251001 > 59 then (some (-1)) else (if x251002 < 0 then (some (-1)) else (if x251002 > 59 then (some (-1)) else (some (wrap64 ((wrap64 ((wrap64 ((wrap64 (x251000 * 60)) + x251001)) * 60)) + x251002)))))))))
def fuseeref08_Seconds.f (k : Nat) (a0_0 : Int) (a0_1 : Int) (a0_2 : Int) : Option (Int) := if a0_0 = 23 then (if a0_1 = 59 then (fuseeref08_Seconds.j0 k (a0_2 == 60) a0_0 a0_1 a0_2) else (fuseeref08_Seconds.j0 k false a0_0 a0_1 a0_2)) else (fuseeref08_Seconds.j0 k false a0_0 a0_1 a0_2)
set_option maxHeartbeats 8000000 in
set_option maxRecDepth 100000 in
theorem fuseeref08_Seconds.calls (k : Nat) (a0_0 : Int) (a0_1 : Int) (a0_2 : Int) (r : Int) (w : World) (h : fuseeref08_Seconds.f k a0_0 a0_1 a0_2 = some r) :
    Calls Tryz.prog 34 #[.agg #[.int .i64 a0_0, .int .i64 a0_1, .int .i64 a0_2]] w fun e w' => e = .returned (.int .i64 r) ∧ Below w.heap.size w w' := by
  have hu49 := Tryz.underlying49
  have HB := Aside0.mk (Below.refl w.heap.size w)
  have H := h
  clear h
  replace H : (if a0_0 = 23 then (if a0_1 = 59 then (fuseeref08_Seconds.j0 k (a0_2 == 60) a0_0 a0_1 a0_2) else (fuseeref08_Seconds.j0 k false a0_0 a0_1 a0_2)) else (fuseeref08_Seconds.j0 k false a0_0 a0_1 a0_2)) = some r := H
  have HC2 := Aside0.mk H
  clear H
  go_enter Tryz.func34, Tryz.ntmps34
  go_upto_region 1 with (first | ((with_reducible refine gate_dst (N := 1) rfl ?_); refine box_event ?hg (N := 1) ?hd (cs := #[.int .i64 a0_0, .int .i64 a0_1, .int .i64 a0_2]) (t := 49) ?hr ?_; (case hd => rfl); (case hg => rfl); (case hr => first | (go_simp; done) | (go_simp; rfl)); intro gb250 hg w3 hbox hb; have n0_ := Aside0.mk (below_step (by repeat (first | (with_reducible first | exact HB.out | apply below_alloc | apply pw_below_drewN | apply below_drew1) | exact HB.out)) hb); have n1_ := Aside0.mk (hbox); have n2_ := Aside0.mk ((by rw [hg]; exact (below_size (by repeat (first | (with_reducible first | exact HB.out | apply below_alloc | apply pw_below_drewN | apply below_drew1) | exact HB.out))) : w.heap.size ≤ gb250)); have n3_ := Aside0.mk ((by rw [hg]; exact (below_size (by repeat (first | (with_reducible first | exact HB.out | apply below_alloc | apply pw_below_drewN | apply below_drew1) | exact HB.out))) : w.heap.size ≤ gb250)); clear HB; have HB := n0_; have BK250 := n1_; have GW250 := n2_; have GE250 := n3_; clear n0_ n1_ n2_ n3_; clear hb hbox hg))
  (try simp only [Act.put, List.setIfInBounds_toArray, List.set_cons_zero, List.set_cons_succ])
  go_cut [15] (fun v15 wc => ∃ (kq : Nat) (x15_1 : Bool), v15 = .bool x15_1 ∧ Aside0 (fuseeref08_Seconds.j0 kq x15_1 a0_0 a0_1 a0_2 = some r) ∧ Aside0 (kq ≤ k) ∧ Aside0 (wc.heap[gb250]? = some (.cells #[.int .i64 a0_0, .int .i64 a0_1, .int .i64 a0_2] 49 (0, 0))) ∧ Aside0 (Below w.heap.size w wc))
  case first =>
    have H := HC2.out
    clear HC2
    by_cases c4 : a0_0 = 23
    · rw [if_pos c4] at H
      have c4b0 : (a0_0 == 23) = true := beq_iff_eq.mpr c4
      have c4b1 : (a0_0 != 23) = false := bne_eq_false_iff_eq.mpr c4
      clear c4
      (first | rw [c4b0] | (simp only [i64_w, i32_w]; rw [c4b0]) | skip)
      by_cases c5 : a0_1 = 59
      · rw [if_pos c5] at H
        have c5b0 : (a0_1 == 59) = true := beq_iff_eq.mpr c5
        have c5b1 : (a0_1 != 59) = false := bne_eq_false_iff_eq.mpr c5
        clear c5
        have H' := Aside0.mk H
        clear H
        have hcz6_0 : w3.cell? ⟨gb250, 0, none⟩ = some (.int .i64 a0_0) := (blk_cell BK250.out 0).trans rfl
        have hcz6_1 : w3.cell? ⟨gb250, 1, none⟩ = some (.int .i64 a0_1) := (blk_cell BK250.out 1).trans rfl
        have hcz6_2 : w3.cell? ⟨gb250, 2, none⟩ = some (.int .i64 a0_2) := (blk_cell BK250.out 2).trans rfl
        have hfz6_0 := blk_frozen BK250.out 0
        have hfz6_1 := blk_frozen BK250.out 1
        have hfz6_2 := blk_frozen BK250.out 2
        go_wp2
        go_meet
        case rel => exact ⟨_, ((a0_2 == 60)), (by first | rfl | (simp; done) | (simp [*]; done)), H', ⟨by first | omega | exact Nat.le_refl _⟩, ⟨by (with_reducible repeat (first | refine blk_drewN ?_ _ | refine blk_drew ?_ | refine blk_alloc ?_ _)); exact BK250.out⟩, ⟨by repeat (first | (with_reducible first | exact HB.out | apply below_alloc | apply pw_below_drewN | apply below_drew1 | refine below_set ?_ GE250.out) | exact HB.out)⟩⟩
      · rw [if_neg c5] at H
        have c5b0 : (a0_1 == 59) = false := beq_eq_false_iff_ne.mpr c5
        have c5b1 : (a0_1 != 59) = true := bne_iff_ne.mpr c5
        have H' := Aside0.mk H
        clear H
        have hcz7_0 : w3.cell? ⟨gb250, 0, none⟩ = some (.int .i64 a0_0) := (blk_cell BK250.out 0).trans rfl
        have hcz7_1 : w3.cell? ⟨gb250, 1, none⟩ = some (.int .i64 a0_1) := (blk_cell BK250.out 1).trans rfl
        have hcz7_2 : w3.cell? ⟨gb250, 2, none⟩ = some (.int .i64 a0_2) := (blk_cell BK250.out 2).trans rfl
        have hfz7_0 := blk_frozen BK250.out 0
        have hfz7_1 := blk_frozen BK250.out 1
        have hfz7_2 := blk_frozen BK250.out 2
        go_wp2
        go_meet
        case rel => exact ⟨_, (false), (by first | rfl | (simp; done) | (simp [*]; done)), H', ⟨by first | omega | exact Nat.le_refl _⟩, ⟨by (with_reducible repeat (first | refine blk_drewN ?_ _ | refine blk_drew ?_ | refine blk_alloc ?_ _)); exact BK250.out⟩, ⟨by repeat (first | (with_reducible first | exact HB.out | apply below_alloc | apply pw_below_drewN | apply below_drew1 | refine below_set ?_ GE250.out) | exact HB.out)⟩⟩
    · rw [if_neg c4] at H
      have c4b0 : (a0_0 == 23) = false := beq_eq_false_iff_ne.mpr c4
      have c4b1 : (a0_0 != 23) = true := bne_iff_ne.mpr c4
      (first | rw [c4b0] | (simp only [i64_w, i32_w]; rw [c4b0]) | skip)
      have H' := Aside0.mk H
      clear H
      have hcz8_0 : w3.cell? ⟨gb250, 0, none⟩ = some (.int .i64 a0_0) := (blk_cell BK250.out 0).trans rfl
      have hcz8_1 : w3.cell? ⟨gb250, 1, none⟩ = some (.int .i64 a0_1) := (blk_cell BK250.out 1).trans rfl
      have hcz8_2 : w3.cell? ⟨gb250, 2, none⟩ = some (.int .i64 a0_2) := (blk_cell BK250.out 2).trans rfl
      have hfz8_0 := blk_frozen BK250.out 0
      have hfz8_1 := blk_frozen BK250.out 1
      have hfz8_2 := blk_frozen BK250.out 2
      go_wp2
      go_meet
      case rel => exact ⟨_, (false), (by first | rfl | (simp; done) | (simp [*]; done)), H', ⟨by first | omega | exact Nat.le_refl _⟩, ⟨by (with_reducible repeat (first | refine blk_drewN ?_ _ | refine blk_drew ?_ | refine blk_alloc ?_ _)); exact BK250.out⟩, ⟨by repeat (first | (with_reducible first | exact HB.out | apply below_alloc | apply pw_below_drewN | apply below_drew1 | refine below_set ?_ GE250.out) | exact HB.out)⟩⟩
  case rest =>
    clear HC2
    try clear p2
    try clear c3
    try clear c4
    try clear c4b0
    try clear c4b1
    try clear c5
    try clear c5b0
    try clear c5b1
    try clear hcz6_0
    try clear hcz6_1
    try clear hcz6_2
    try clear hcz7_0
    try clear hcz7_1
    try clear hcz7_2
    try clear hcz8_0
    try clear hcz8_1
    try clear hcz8_2
    try clear hfz6_0
    try clear hfz6_1
    try clear hfz6_2
    try clear hfz7_0
    try clear hfz7_1
    try clear hfz7_2
    try clear hfz8_0
    try clear hfz8_1
    try clear hfz8_2
    obtain ⟨kq, x15_1, rfl, HA, HJ1, BK250, HB⟩ := hcut
    cases kq with
    | zero => exact absurd HA.out (by simp [fuseeref08_Seconds.j0])
    | succ kj1 =>
      have H := HA.out
      clear HA
      simp only [fuseeref08_Seconds.j0] at H
      by_cases c9 : x15_1 = true
      · subst c9
        have H1 : (some 86400) = some r := by rw [if_pos rfl] at H; exact H
        clear H
        have H := H1
        clear H1
        obtain rfl := Option.some.inj H
        go_wp2
        go_ret
        exact ⟨by first | rfl | (simp [errW_none, errW_some] <;> rfl) | (simp [*, errW_none, errW_some] <;> rfl), by repeat (first | (with_reducible first | exact HB.out | apply below_alloc | apply pw_below_drewN | apply below_drew1 | refine below_set ?_ GE250.out) | exact HB.out)⟩
      · replace c9 := Bool.eq_false_iff.mpr c9
        subst c9
        have H1 : (if a0_0 < 0 then (some (-1)) else (if a0_0 > 23 then (some (-1)) else (if a0_1 < 0 then (some (-1)) else (if a0_1 > 59 then (some (-1)) else (if a0_2 < 0 then (some (-1)) else (if a0_2 > 59 then (some (-1)) else (some (wrap64 ((wrap64 ((wrap64 ((wrap64 (a0_0 * 60)) + a0_1)) * 60)) + a0_2))))))))) = some r := by rw [if_neg (show ¬ (false = true) by decide)] at H; exact H
        clear H
        have H := H1
        clear H1
        by_cases c10 : a0_0 < 0
        · rw [if_pos c10] at H
          have c10b0 : decide (a0_0 < 0) = true := decide_eq_true c10
          clear c10
          obtain rfl := Option.some.inj H
          have hcz11_0 : wc.cell? ⟨gb250, 0, none⟩ = some (.int .i64 a0_0) := (blk_cell BK250.out 0).trans rfl
          have hcz11_1 : wc.cell? ⟨gb250, 1, none⟩ = some (.int .i64 a0_1) := (blk_cell BK250.out 1).trans rfl
          have hcz11_2 : wc.cell? ⟨gb250, 2, none⟩ = some (.int .i64 a0_2) := (blk_cell BK250.out 2).trans rfl
          have hfz11_0 := blk_frozen BK250.out 0
          have hfz11_1 := blk_frozen BK250.out 1
          have hfz11_2 := blk_frozen BK250.out 2
          go_wp2
          go_ret
          exact ⟨by first | rfl | (simp [errW_none, errW_some] <;> rfl) | (simp [*, errW_none, errW_some] <;> rfl), by repeat (first | (with_reducible first | exact HB.out | apply below_alloc | apply pw_below_drewN | apply below_drew1 | refine below_set ?_ GE250.out) | exact HB.out)⟩
        · rw [if_neg c10] at H
          have c10b0 : decide (a0_0 < 0) = false := decide_eq_false c10
          clear c10
          by_cases c12 : a0_0 > 23
          · rw [if_pos c12] at H
            have c12b0 : decide (23 < a0_0) = true := decide_eq_true c12
            clear c12
            obtain rfl := Option.some.inj H
            have hcz13_0 : wc.cell? ⟨gb250, 0, none⟩ = some (.int .i64 a0_0) := (blk_cell BK250.out 0).trans rfl
            have hcz13_1 : wc.cell? ⟨gb250, 1, none⟩ = some (.int .i64 a0_1) := (blk_cell BK250.out 1).trans rfl
            have hcz13_2 : wc.cell? ⟨gb250, 2, none⟩ = some (.int .i64 a0_2) := (blk_cell BK250.out 2).trans rfl
            have hfz13_0 := blk_frozen BK250.out 0
            have hfz13_1 := blk_frozen BK250.out 1
            have hfz13_2 := blk_frozen BK250.out 2
            go_wp2
            go_ret
            exact ⟨by first | rfl | (simp [errW_none, errW_some] <;> rfl) | (simp [*, errW_none, errW_some] <;> rfl), by repeat (first | (with_reducible first | exact HB.out | apply below_alloc | apply pw_below_drewN | apply below_drew1 | refine below_set ?_ GE250.out) | exact HB.out)⟩
          · rw [if_neg c12] at H
            have c12b0 : decide (23 < a0_0) = false := decide_eq_false c12
            clear c12
            by_cases c14 : a0_1 < 0
            · rw [if_pos c14] at H
              have c14b0 : decide (a0_1 < 0) = true := decide_eq_true c14
              clear c14
              obtain rfl := Option.some.inj H
              have hcz15_0 : wc.cell? ⟨gb250, 0, none⟩ = some (.int .i64 a0_0) := (blk_cell BK250.out 0).trans rfl
              have hcz15_1 : wc.cell? ⟨gb250, 1, none⟩ = some (.int .i64 a0_1) := (blk_cell BK250.out 1).trans rfl
              have hcz15_2 : wc.cell? ⟨gb250, 2, none⟩ = some (.int .i64 a0_2) := (blk_cell BK250.out 2).trans rfl
              have hfz15_0 := blk_frozen BK250.out 0
              have hfz15_1 := blk_frozen BK250.out 1
              have hfz15_2 := blk_frozen BK250.out 2
              go_wp2
              go_ret
              exact ⟨by first | rfl | (simp [errW_none, errW_some] <;> rfl) | (simp [*, errW_none, errW_some] <;> rfl), by repeat (first | (with_reducible first | exact HB.out | apply below_alloc | apply pw_below_drewN | apply below_drew1 | refine below_set ?_ GE250.out) | exact HB.out)⟩
            · rw [if_neg c14] at H
              have c14b0 : decide (a0_1 < 0) = false := decide_eq_false c14
              clear c14
              by_cases c16 : a0_1 > 59
              · rw [if_pos c16] at H
                have c16b0 : decide (59 < a0_1) = true := decide_eq_true c16
                clear c16
                obtain rfl := Option.some.inj H
                have hcz17_0 : wc.cell? ⟨gb250, 0, none⟩ = some (.int .i64 a0_0) := (blk_cell BK250.out 0).trans rfl
                have hcz17_1 : wc.cell? ⟨gb250, 1, none⟩ = some (.int .i64 a0_1) := (blk_cell BK250.out 1).trans rfl
                have hcz17_2 : wc.cell? ⟨gb250, 2, none⟩ = some (.int .i64 a0_2) := (blk_cell BK250.out 2).trans rfl
                have hfz17_0 := blk_frozen BK250.out 0
                have hfz17_1 := blk_frozen BK250.out 1
                have hfz17_2 := blk_frozen BK250.out 2
                go_wp2
                go_ret
                exact ⟨by first | rfl | (simp [errW_none, errW_some] <;> rfl) | (simp [*, errW_none, errW_some] <;> rfl), by repeat (first | (with_reducible first | exact HB.out | apply below_alloc | apply pw_below_drewN | apply below_drew1 | refine below_set ?_ GE250.out) | exact HB.out)⟩
              · rw [if_neg c16] at H
                have c16b0 : decide (59 < a0_1) = false := decide_eq_false c16
                clear c16
                by_cases c18 : a0_2 < 0
                · rw [if_pos c18] at H
                  have c18b0 : decide (a0_2 < 0) = true := decide_eq_true c18
                  clear c18
                  obtain rfl := Option.some.inj H
                  have hcz19_0 : wc.cell? ⟨gb250, 0, none⟩ = some (.int .i64 a0_0) := (blk_cell BK250.out 0).trans rfl
                  have hcz19_1 : wc.cell? ⟨gb250, 1, none⟩ = some (.int .i64 a0_1) := (blk_cell BK250.out 1).trans rfl
                  have hcz19_2 : wc.cell? ⟨gb250, 2, none⟩ = some (.int .i64 a0_2) := (blk_cell BK250.out 2).trans rfl
                  have hfz19_0 := blk_frozen BK250.out 0
                  have hfz19_1 := blk_frozen BK250.out 1
                  have hfz19_2 := blk_frozen BK250.out 2
                  go_wp2
                  go_ret
                  exact ⟨by first | rfl | (simp [errW_none, errW_some] <;> rfl) | (simp [*, errW_none, errW_some] <;> rfl), by repeat (first | (with_reducible first | exact HB.out | apply below_alloc | apply pw_below_drewN | apply below_drew1 | refine below_set ?_ GE250.out) | exact HB.out)⟩
                · rw [if_neg c18] at H
                  have c18b0 : decide (a0_2 < 0) = false := decide_eq_false c18
                  clear c18
                  by_cases c20 : a0_2 > 59
                  · rw [if_pos c20] at H
                    have c20b0 : decide (59 < a0_2) = true := decide_eq_true c20
                    clear c20
                    obtain rfl := Option.some.inj H
                    have hcz21_0 : wc.cell? ⟨gb250, 0, none⟩ = some (.int .i64 a0_0) := (blk_cell BK250.out 0).trans rfl
                    have hcz21_1 : wc.cell? ⟨gb250, 1, none⟩ = some (.int .i64 a0_1) := (blk_cell BK250.out 1).trans rfl
                    have hcz21_2 : wc.cell? ⟨gb250, 2, none⟩ = some (.int .i64 a0_2) := (blk_cell BK250.out 2).trans rfl
                    have hfz21_0 := blk_frozen BK250.out 0
                    have hfz21_1 := blk_frozen BK250.out 1
                    have hfz21_2 := blk_frozen BK250.out 2
                    go_wp2
                    go_ret
                    exact ⟨by first | rfl | (simp [errW_none, errW_some] <;> rfl) | (simp [*, errW_none, errW_some] <;> rfl), by repeat (first | (with_reducible first | exact HB.out | apply below_alloc | apply pw_below_drewN | apply below_drew1 | refine below_set ?_ GE250.out) | exact HB.out)⟩
                  · rw [if_neg c20] at H
                    have c20b0 : decide (59 < a0_2) = false := decide_eq_false c20
                    clear c20
                    obtain rfl := Option.some.inj H
                    have hcz22_0 : wc.cell? ⟨gb250, 0, none⟩ = some (.int .i64 a0_0) := (blk_cell BK250.out 0).trans rfl
                    have hcz22_1 : wc.cell? ⟨gb250, 1, none⟩ = some (.int .i64 a0_1) := (blk_cell BK250.out 1).trans rfl
                    have hcz22_2 : wc.cell? ⟨gb250, 2, none⟩ = some (.int .i64 a0_2) := (blk_cell BK250.out 2).trans rfl
                    have hfz22_0 := blk_frozen BK250.out 0
                    have hfz22_1 := blk_frozen BK250.out 1
                    have hfz22_2 := blk_frozen BK250.out 2
                    go_wp2
                    go_ret
                    exact ⟨by first | rfl | (simp [errW_none, errW_some] <;> rfl) | (simp [*, errW_none, errW_some] <;> rfl), by repeat (first | (with_reducible first | exact HB.out | apply below_alloc | apply pw_below_drewN | apply below_drew1 | refine below_set ?_ GE250.out) | exact HB.out)⟩

end Go.Proofs.YtfjifhkgifefeaaGreatDoor.PA
end

section
namespace Go.Proofs.YtfjifhkgifefeaaGreatDoor.PA
open Go.Proofs.YtfjifhkgifefeaaGreatDoor.Giv Go.RowKit Go.Proofs.YtfjifhkgifefeaaGreatDoorW.PrintWords Go.Proofs.YtfjifhkgifefeaaGreatDoorW.PrintLast Go.Proofs.YtfjifhkgifefeaaGreatDoorW.PrintMore
attribute [local go_sem] max2_int min2_int max_two min_two max_three min_three max_four min_four   -- for this text's walks alone
set_option linter.unusedVariables false
set_option linter.unusedSimpArgs false

/-! ### fuseeref08_Of: function 38 -/
def fuseeref08_Of.f (a0 : Int) : Option (Int × Int × Int) := if a0 = 86400 then (some (23, 59, 60)) else (some (wrap64 (Int.tdiv (wrap64 (Int.tdiv a0 60)) 60), Int.tmod (wrap64 (Int.tdiv a0 60)) 60, Int.tmod a0 60))
set_option maxHeartbeats 8000000 in
set_option maxRecDepth 100000 in
theorem fuseeref08_Of.calls (a0 : Int) (r1 : Int) (r2 : Int) (r3 : Int) (w : World) (h : fuseeref08_Of.f a0 = some (r1, r2, r3)) :
    Calls Tryz.prog 38 #[.int .i64 a0] w fun e w' => e = .returned (.agg #[.int .i64 r1, .int .i64 r2, .int .i64 r3]) ∧ Below w.heap.size w w' := by
  have hu49 := Tryz.underlying49
  have HB := Aside0.mk (Below.refl w.heap.size w)
  have H := h
  clear h
  replace H : (if a0 = 86400 then (some (23, 59, 60)) else (some (wrap64 (Int.tdiv (wrap64 (Int.tdiv a0 60)) 60), Int.tmod (wrap64 (Int.tdiv a0 60)) 60, Int.tmod a0 60))) = some (r1, r2, r3) := H
  by_cases c2 : a0 = 86400
  · rw [if_pos c2] at H
    have c2b0 : (a0 == 86400) = true := beq_iff_eq.mpr c2
    have c2b1 : (a0 != 86400) = false := bne_eq_false_iff_eq.mpr c2
    clear c2
    simp only [Option.some.injEq, Prod.mk.injEq] at H
    obtain ⟨rfl, rfl, rfl⟩ := H
    go_enter Tryz.func38, Tryz.ntmps38
    go_wp2_with (first | ((with_reducible refine gate_dst (N := 2) rfl ?_); refine box_event ?hg (N := 2) ?hd (cs := #[.int .i64 0, .int .i64 0, .int .i64 0]) (t := 49) ?hr ?_; (case hd => rfl); (case hg => rfl); (case hr => first | (go_simp; done) | (go_simp; rfl)); intro gb305 hg w3 hbox hb; have n0_ := Aside0.mk (below_step (by repeat (first | (with_reducible first | exact HB.out | apply below_alloc | apply pw_below_drewN | apply below_drew1) | exact HB.out)) hb); have n1_ := Aside0.mk (hbox); have n2_ := Aside0.mk ((by rw [hg]; exact (below_size (by repeat (first | (with_reducible first | exact HB.out | apply below_alloc | apply pw_below_drewN | apply below_drew1) | exact HB.out))) : w.heap.size ≤ gb305)); have n3_ := Aside0.mk ((by rw [hg]; exact (below_size (by repeat (first | (with_reducible first | exact HB.out | apply below_alloc | apply pw_below_drewN | apply below_drew1) | exact HB.out))) : w.heap.size ≤ gb305)); clear HB; have HB := n0_; have BK305 := n1_; have GW305 := n2_; have GE305 := n3_; clear n0_ n1_ n2_ n3_; clear hb hbox hg; have hcz4_0 : w3.cell? ⟨gb305, 0, none⟩ = some (.int .i64 0) := (blk_cell BK305.out 0).trans rfl; have hcz4_1 : w3.cell? ⟨gb305, 1, none⟩ = some (.int .i64 0) := (blk_cell BK305.out 1).trans rfl; have hcz4_2 : w3.cell? ⟨gb305, 2, none⟩ = some (.int .i64 0) := (blk_cell BK305.out 2).trans rfl; have hfz4_0 := blk_frozen BK305.out 0; have hfz4_1 := blk_frozen BK305.out 1; have hfz4_2 := blk_frozen BK305.out 2))
    refine bodyPost_ret (results_cell_row rfl _ _ gb305 49 #[.int .i64 23, .int .i64 59, .int .i64 60] (0, 0) _ rfl (by (with_reducible repeat (first | refine blk_drewN ?_ _ | refine blk_drew ?_ | refine blk_alloc ?_ _)); refine blk_put (cs := #[.int .i64 23, .int .i64 59, .int .i64 0]) ?_ 2 _ rfl; (with_reducible repeat (first | refine blk_drewN ?_ _ | refine blk_drew ?_ | refine blk_alloc ?_ _)); refine blk_put (cs := #[.int .i64 23, .int .i64 0, .int .i64 0]) ?_ 1 _ rfl; (with_reducible repeat (first | refine blk_drewN ?_ _ | refine blk_drew ?_ | refine blk_alloc ?_ _)); refine blk_put (cs := #[.int .i64 0, .int .i64 0, .int .i64 0]) ?_ 0 _ rfl; (with_reducible repeat (first | refine blk_drewN ?_ _ | refine blk_drew ?_ | refine blk_alloc ?_ _)); exact BK305.out) Tryz.underlying49 rfl (by kernel_rfl)) rfl ?_
    exact ⟨by first | rfl | (simp [errW_none, errW_some] <;> rfl) | (simp [*, errW_none, errW_some] <;> rfl), by repeat (first | (with_reducible first | exact HB.out | apply below_alloc | apply pw_below_drewN | apply below_drew1 | refine below_set ?_ GE305.out) | exact HB.out)⟩
  · rw [if_neg c2] at H
    have c2b0 : (a0 == 86400) = false := beq_eq_false_iff_ne.mpr c2
    have c2b1 : (a0 != 86400) = true := bne_iff_ne.mpr c2
    simp only [Option.some.injEq, Prod.mk.injEq] at H
    obtain ⟨rfl, rfl, rfl⟩ := H
    go_enter Tryz.func38, Tryz.ntmps38
    go_wp2_with (first | ((with_reducible refine gate_dst (N := 2) rfl ?_); refine box_event ?hg (N := 2) ?hd (cs := #[.int .i64 0, .int .i64 0, .int .i64 0]) (t := 49) ?hr ?_; (case hd => rfl); (case hg => rfl); (case hr => first | (go_simp; done) | (go_simp; rfl)); intro gb305 hg w5 hbox hb; have n0_ := Aside0.mk (below_step (by repeat (first | (with_reducible first | exact HB.out | apply below_alloc | apply pw_below_drewN | apply below_drew1) | exact HB.out)) hb); have n1_ := Aside0.mk (hbox); have n2_ := Aside0.mk ((by rw [hg]; exact (below_size (by repeat (first | (with_reducible first | exact HB.out | apply below_alloc | apply pw_below_drewN | apply below_drew1) | exact HB.out))) : w.heap.size ≤ gb305)); have n3_ := Aside0.mk ((by rw [hg]; exact (below_size (by repeat (first | (with_reducible first | exact HB.out | apply below_alloc | apply pw_below_drewN | apply below_drew1) | exact HB.out))) : w.heap.size ≤ gb305)); clear HB; have HB := n0_; have BK305 := n1_; have GW305 := n2_; have GE305 := n3_; clear n0_ n1_ n2_ n3_; clear hb hbox hg; have hcz6_0 : w5.cell? ⟨gb305, 0, none⟩ = some (.int .i64 0) := (blk_cell BK305.out 0).trans rfl; have hcz6_1 : w5.cell? ⟨gb305, 1, none⟩ = some (.int .i64 0) := (blk_cell BK305.out 1).trans rfl; have hcz6_2 : w5.cell? ⟨gb305, 2, none⟩ = some (.int .i64 0) := (blk_cell BK305.out 2).trans rfl; have hfz6_0 := blk_frozen BK305.out 0; have hfz6_1 := blk_frozen BK305.out 1; have hfz6_2 := blk_frozen BK305.out 2))
    refine bodyPost_ret (results_cell_row rfl _ _ gb305 49 #[.int .i64 (wrap64 (Int.tdiv (wrap64 (Int.tdiv a0 60)) 60)), .int .i64 (Int.tmod (wrap64 (Int.tdiv a0 60)) 60), .int .i64 (Int.tmod a0 60)] (0, 0) _ rfl (by (with_reducible repeat (first | refine blk_drewN ?_ _ | refine blk_drew ?_ | refine blk_alloc ?_ _)); refine blk_put (cs := #[.int .i64 (wrap64 (Int.tdiv (wrap64 (Int.tdiv a0 60)) 60)), .int .i64 (Int.tmod (wrap64 (Int.tdiv a0 60)) 60), .int .i64 0]) ?_ 2 _ rfl; (with_reducible repeat (first | refine blk_drewN ?_ _ | refine blk_drew ?_ | refine blk_alloc ?_ _)); refine blk_put (cs := #[.int .i64 (wrap64 (Int.tdiv (wrap64 (Int.tdiv a0 60)) 60)), .int .i64 0, .int .i64 0]) ?_ 1 _ rfl; (with_reducible repeat (first | refine blk_drewN ?_ _ | refine blk_drew ?_ | refine blk_alloc ?_ _)); refine blk_put (cs := #[.int .i64 0, .int .i64 0, .int .i64 0]) ?_ 0 _ rfl; (with_reducible repeat (first | refine blk_drewN ?_ _ | refine blk_drew ?_ | refine blk_alloc ?_ _)); exact BK305.out) Tryz.underlying49 rfl (by kernel_rfl)) rfl ?_
    exact ⟨by first | rfl | (simp [errW_none, errW_some] <;> rfl) | (simp [*, errW_none, errW_some] <;> rfl), by repeat (first | (with_reducible first | exact HB.out | apply below_alloc | apply pw_below_drewN | apply below_drew1 | refine below_set ?_ GE305.out) | exact HB.out)⟩

end Go.Proofs.YtfjifhkgifefeaaGreatDoor.PA
end

