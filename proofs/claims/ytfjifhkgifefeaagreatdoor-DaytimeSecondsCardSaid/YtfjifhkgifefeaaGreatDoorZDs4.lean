/- DaytimeSeconds: the seconds of a day, walked and proved; by an AI agent -/
import Derived.Test.YtfjifhkgifefeaaGreatDoorZDs3
import Derived.Test.YtfjifhkgifefeaaGreatDoorRows
import Derived.LaidMore
import Derived.LaidHandle
import Derived.Stop.LaidErr
import Derived.Lib.LaidTab
import Derived.Deep.DeepWitnessRowRef
set_option linter.unusedVariables false
set_option linter.unusedSimpArgs false
section
namespace Go.Proofs.YtfjifhkgifefeaaGreatDoor.PA
open Go.Proofs.YtfjifhkgifefeaaGreatDoor.Giv Go.RowKit Go.Proofs.YtfjifhkgifefeaaGreatDoorW.PrintWords Go.Proofs.YtfjifhkgifefeaaGreatDoorW.PrintLast Go.Proofs.YtfjifhkgifefeaaGreatDoorW.PrintMore
attribute [local go_sem] max2_int min2_int max_two min_two max_three min_three max_four min_four   -- for this text's walks alone
set_option linter.unusedVariables false
set_option linter.unusedSimpArgs false

attribute [local go_sem high] eqA50
/-! ### fuseelaw08_DaytimeSeconds: function 6 -/
mutual
def fuseelaw08_DaytimeSeconds.j0 : Nat → Int → Option Int → Bool → Int → Int → Int → Option (Bool)
  | 0, _, _, _, _, _, _ => none
  | k + 1, x1, x9, x58, x315000, x315001, x315002 => if x58 = true then (some false) else (if x1 < 0 then (fuseelaw08_DaytimeSeconds.j1 k x1 x9 true x315000 x315001 x315002) else (fuseelaw08_DaytimeSeconds.j1 k x1 x9 (decide (x1 > 86400)) x315000 x315001 x315002))
def fuseelaw08_DaytimeSeconds.j1 : Nat → Int → Option Int → Bool → Int → Int → Int → Option (Bool)
  | 0, _, _, _, _, _, _ => none
  | k + 1, x1, x9, x64, x315000, x315001, x315002 => if x64 = true then ((fuseelaw08_num.f x9).bind fun t322 => (if t322 = 1 then (if (x315000 == 0 && (x315001 == 0 && (x315002 == 0))) = true then ((fuseelaw08_sure.f k).bind fun t323 => (some t323)) else (some false)) else (some false))) else (if x9.isNone = true then ((fuseeref08_Of.f x1).bind fun bt325 => (if (x315000 == bt325.1 && (x315001 == bt325.2.1 && (x315002 == bt325.2.2))) = true then ((fuseelaw08_sure.f k).bind fun t328 => (some t328)) else (some false))) else (some false))
end
def fuseelaw08_DaytimeSeconds.f (k : Nat) (a0_0 : Int) (a0_1 : Int) (a0_2 : Int) (a1 : Int) : Option (Bool) := (daytime_Seconds.f a0_0 a0_1 a0_2).bind fun bt308 => ((daytime_Of.f k a1).bind fun bt310 => ((fuseeref08_Seconds.f k a0_0 a0_1 a0_2).bind fun t315 => ((daytime_Check.f a0_0 a0_1 a0_2).bind fun t316 => (if t316.isNone = true then (if (true != (decide (t315 ≥ 0))) = true then (fuseelaw08_DaytimeSeconds.j0 k a1 bt310.2.2.2 true bt310.1 bt310.2.1 bt310.2.2.1) else (if bt308.2.isNone = true then (fuseelaw08_DaytimeSeconds.j0 k a1 bt310.2.2.2 (bt308.1 != t315) bt310.1 bt310.2.1 bt310.2.2.1) else (if (false != (decide (t315 ≥ 0))) = true then (fuseelaw08_DaytimeSeconds.j0 k a1 bt310.2.2.2 true bt310.1 bt310.2.1 bt310.2.2.1) else ((fuseelaw08_num.f (some (bt308.2.getD 0))).bind fun t319 => (if t319 = 1 then (if bt308.1 = 0 then (fuseelaw08_DaytimeSeconds.j0 k a1 bt310.2.2.2 false bt310.1 bt310.2.1 bt310.2.2.1) else (fuseelaw08_DaytimeSeconds.j0 k a1 bt310.2.2.2 true bt310.1 bt310.2.1 bt310.2.2.1)) else (fuseelaw08_DaytimeSeconds.j0 k a1 bt310.2.2.2 true bt310.1 bt310.2.1 bt310.2.2.1)))))) else (if (false != (decide (t315 ≥ 0))) = true then (fuseelaw08_DaytimeSeconds.j0 k a1 bt310.2.2.2 true bt310.1 bt310.2.1 bt310.2.2.1) else (if bt308.2.isNone = true then (if (true != (decide (t315 ≥ 0))) = true then (fuseelaw08_DaytimeSeconds.j0 k a1 bt310.2.2.2 true bt310.1 bt310.2.1 bt310.2.2.1) else (fuseelaw08_DaytimeSeconds.j0 k a1 bt310.2.2.2 (bt308.1 != t315) bt310.1 bt310.2.1 bt310.2.2.1)) else ((fuseelaw08_num.f (some (bt308.2.getD 0))).bind fun t321 => (if t321 = 1 then (if bt308.1 = 0 then (fuseelaw08_DaytimeSeconds.j0 k a1 bt310.2.2.2 false bt310.1 bt310.2.1 bt310.2.2.1) else (fuseelaw08_DaytimeSeconds.j0 k a1 bt310.2.2.2 true bt310.1 bt310.2.1 bt310.2.2.1)) else (fuseelaw08_DaytimeSeconds.j0 k a1 bt310.2.2.2 true bt310.1 bt310.2.1 bt310.2.2.1)))))))))
def fuseelaw08_DaytimeSeconds.T9 : Bool × List (List Nat × List Nat) := (true, [([], []), ([0], [0]), ([1], [1]), ([2], [2]), ([2], [2]), ([4, 2, 2], [2, 4]), ([3, 5, 2], [2, 3, 5]), ([2, 6], [2, 6]), ([7, 5], [7]), ([8, 8], [8]), ([8, 9], [8, 9]), ([10, 9, 0, 1, 2, 3, 4, 5, 6, 7, 8, 9, 10], [10])])
def fuseelaw08_DaytimeSeconds.B9 : List Nat := [0, 1, 3, 7, 7, 23, 63, 127, 255, 511, 1023, 2047]
theorem fuseelaw08_DaytimeSeconds.tab9 : rtab .any (opsOf Tryz.f6 9) = fuseelaw08_DaytimeSeconds.T9 := by kernel_rfl
theorem fuseelaw08_DaytimeSeconds.bits9 : waitsOk fuseelaw08_DaytimeSeconds.T9.2 fuseelaw08_DaytimeSeconds.B9 = true := by kernel_rfl
set_option maxHeartbeats 8000000 in
set_option maxRecDepth 100000 in
theorem fuseelaw08_DaytimeSeconds.calls (k : Nat) (a0_0 : Int) (a0_1 : Int) (a0_2 : Int) (a1 : Int) (r : Bool) (w : World) (hl_ : Laid w) (h : fuseelaw08_DaytimeSeconds.f k a0_0 a0_1 a0_2 a1 = some r) :
    Calls Tryz.prog 6 #[.agg #[.int .i64 a0_0, .int .i64 a0_1, .int .i64 a0_2], .int .i64 a1] w fun e w' => e = .returned (.bool r) ∧ Below w.heap.size w w' := by
  have hu49 := Tryz.underlying49
  have hu50 := Tryz.underlying50
  have hu28 := Tryz.underlying28
  have hu157 := Tryz.underlying157
  have HL := Aside0.mk hl_
  clear hl_
  have HB := Aside0.mk (Below.refl w.heap.size w)
  have H : ((daytime_Seconds.f a0_0 a0_1 a0_2).bind fun bt308 => ((daytime_Of.f k a1).bind fun bt310 => ((fuseeref08_Seconds.f k a0_0 a0_1 a0_2).bind fun t315 => ((daytime_Check.f a0_0 a0_1 a0_2).bind fun t316 => (if t316.isNone = true then (if (true != (decide (t315 ≥ 0))) = true then (fuseelaw08_DaytimeSeconds.j0 k a1 bt310.2.2.2 true bt310.1 bt310.2.1 bt310.2.2.1) else (if bt308.2.isNone = true then (fuseelaw08_DaytimeSeconds.j0 k a1 bt310.2.2.2 (bt308.1 != t315) bt310.1 bt310.2.1 bt310.2.2.1) else (if (false != (decide (t315 ≥ 0))) = true then (fuseelaw08_DaytimeSeconds.j0 k a1 bt310.2.2.2 true bt310.1 bt310.2.1 bt310.2.2.1) else ((fuseelaw08_num.f (some (bt308.2.getD 0))).bind fun t319 => (if t319 = 1 then (if bt308.1 = 0 then (fuseelaw08_DaytimeSeconds.j0 k a1 bt310.2.2.2 false bt310.1 bt310.2.1 bt310.2.2.1) else (fuseelaw08_DaytimeSeconds.j0 k a1 bt310.2.2.2 true bt310.1 bt310.2.1 bt310.2.2.1)) else (fuseelaw08_DaytimeSeconds.j0 k a1 bt310.2.2.2 true bt310.1 bt310.2.1 bt310.2.2.1)))))) else (if (false != (decide (t315 ≥ 0))) = true then (fuseelaw08_DaytimeSeconds.j0 k a1 bt310.2.2.2 true bt310.1 bt310.2.1 bt310.2.2.1) else (if bt308.2.isNone = true then (if (true != (decide (t315 ≥ 0))) = true then (fuseelaw08_DaytimeSeconds.j0 k a1 bt310.2.2.2 true bt310.1 bt310.2.1 bt310.2.2.1) else (fuseelaw08_DaytimeSeconds.j0 k a1 bt310.2.2.2 (bt308.1 != t315) bt310.1 bt310.2.1 bt310.2.2.1)) else ((fuseelaw08_num.f (some (bt308.2.getD 0))).bind fun t321 => (if t321 = 1 then (if bt308.1 = 0 then (fuseelaw08_DaytimeSeconds.j0 k a1 bt310.2.2.2 false bt310.1 bt310.2.1 bt310.2.2.1) else (fuseelaw08_DaytimeSeconds.j0 k a1 bt310.2.2.2 true bt310.1 bt310.2.1 bt310.2.2.1)) else (fuseelaw08_DaytimeSeconds.j0 k a1 bt310.2.2.2 true bt310.1 bt310.2.1 bt310.2.2.1)))))))))) = some r := h
  clear h
  replace H := Option.bind_eq_some_iff.mp H
  obtain ⟨⟨t308, t309⟩, A30, H⟩ := H
  replace H : ((daytime_Of.f k a1).bind fun bt310 => ((fuseeref08_Seconds.f k a0_0 a0_1 a0_2).bind fun t315 => ((daytime_Check.f a0_0 a0_1 a0_2).bind fun t316 => (if t316.isNone = true then (if (true != (decide (t315 ≥ 0))) = true then (fuseelaw08_DaytimeSeconds.j0 k a1 bt310.2.2.2 true bt310.1 bt310.2.1 bt310.2.2.1) else (if t309.isNone = true then (fuseelaw08_DaytimeSeconds.j0 k a1 bt310.2.2.2 (t308 != t315) bt310.1 bt310.2.1 bt310.2.2.1) else (if (false != (decide (t315 ≥ 0))) = true then (fuseelaw08_DaytimeSeconds.j0 k a1 bt310.2.2.2 true bt310.1 bt310.2.1 bt310.2.2.1) else ((fuseelaw08_num.f (some (t309.getD 0))).bind fun t319 => (if t319 = 1 then (if t308 = 0 then (fuseelaw08_DaytimeSeconds.j0 k a1 bt310.2.2.2 false bt310.1 bt310.2.1 bt310.2.2.1) else (fuseelaw08_DaytimeSeconds.j0 k a1 bt310.2.2.2 true bt310.1 bt310.2.1 bt310.2.2.1)) else (fuseelaw08_DaytimeSeconds.j0 k a1 bt310.2.2.2 true bt310.1 bt310.2.1 bt310.2.2.1)))))) else (if (false != (decide (t315 ≥ 0))) = true then (fuseelaw08_DaytimeSeconds.j0 k a1 bt310.2.2.2 true bt310.1 bt310.2.1 bt310.2.2.1) else (if t309.isNone = true then (if (true != (decide (t315 ≥ 0))) = true then (fuseelaw08_DaytimeSeconds.j0 k a1 bt310.2.2.2 true bt310.1 bt310.2.1 bt310.2.2.1) else (fuseelaw08_DaytimeSeconds.j0 k a1 bt310.2.2.2 (t308 != t315) bt310.1 bt310.2.1 bt310.2.2.1)) else ((fuseelaw08_num.f (some (t309.getD 0))).bind fun t321 => (if t321 = 1 then (if t308 = 0 then (fuseelaw08_DaytimeSeconds.j0 k a1 bt310.2.2.2 false bt310.1 bt310.2.1 bt310.2.2.1) else (fuseelaw08_DaytimeSeconds.j0 k a1 bt310.2.2.2 true bt310.1 bt310.2.1 bt310.2.2.1)) else (fuseelaw08_DaytimeSeconds.j0 k a1 bt310.2.2.2 true bt310.1 bt310.2.1 bt310.2.2.1))))))))) = some r := H
  have A3 := Aside0.mk A30
  clear A30
  replace H := Option.bind_eq_some_iff.mp H
  obtain ⟨⟨t310, t311, t312, t313⟩, A40, H⟩ := H
  replace H : ((fuseeref08_Seconds.f k a0_0 a0_1 a0_2).bind fun t315 => ((daytime_Check.f a0_0 a0_1 a0_2).bind fun t316 => (if t316.isNone = true then (if (true != (decide (t315 ≥ 0))) = true then (fuseelaw08_DaytimeSeconds.j0 k a1 t313 true t310 t311 t312) else (if t309.isNone = true then (fuseelaw08_DaytimeSeconds.j0 k a1 t313 (t308 != t315) t310 t311 t312) else (if (false != (decide (t315 ≥ 0))) = true then (fuseelaw08_DaytimeSeconds.j0 k a1 t313 true t310 t311 t312) else ((fuseelaw08_num.f (some (t309.getD 0))).bind fun t319 => (if t319 = 1 then (if t308 = 0 then (fuseelaw08_DaytimeSeconds.j0 k a1 t313 false t310 t311 t312) else (fuseelaw08_DaytimeSeconds.j0 k a1 t313 true t310 t311 t312)) else (fuseelaw08_DaytimeSeconds.j0 k a1 t313 true t310 t311 t312)))))) else (if (false != (decide (t315 ≥ 0))) = true then (fuseelaw08_DaytimeSeconds.j0 k a1 t313 true t310 t311 t312) else (if t309.isNone = true then (if (true != (decide (t315 ≥ 0))) = true then (fuseelaw08_DaytimeSeconds.j0 k a1 t313 true t310 t311 t312) else (fuseelaw08_DaytimeSeconds.j0 k a1 t313 (t308 != t315) t310 t311 t312)) else ((fuseelaw08_num.f (some (t309.getD 0))).bind fun t321 => (if t321 = 1 then (if t308 = 0 then (fuseelaw08_DaytimeSeconds.j0 k a1 t313 false t310 t311 t312) else (fuseelaw08_DaytimeSeconds.j0 k a1 t313 true t310 t311 t312)) else (fuseelaw08_DaytimeSeconds.j0 k a1 t313 true t310 t311 t312)))))))) = some r := H
  have A4 := Aside0.mk A40
  clear A40
  replace H := Option.bind_eq_some_iff.mp H
  obtain ⟨t315, A50, H⟩ := H
  replace H : ((daytime_Check.f a0_0 a0_1 a0_2).bind fun t316 => (if t316.isNone = true then (if (true != (decide (t315 ≥ 0))) = true then (fuseelaw08_DaytimeSeconds.j0 k a1 t313 true t310 t311 t312) else (if t309.isNone = true then (fuseelaw08_DaytimeSeconds.j0 k a1 t313 (t308 != t315) t310 t311 t312) else (if (false != (decide (t315 ≥ 0))) = true then (fuseelaw08_DaytimeSeconds.j0 k a1 t313 true t310 t311 t312) else ((fuseelaw08_num.f (some (t309.getD 0))).bind fun t319 => (if t319 = 1 then (if t308 = 0 then (fuseelaw08_DaytimeSeconds.j0 k a1 t313 false t310 t311 t312) else (fuseelaw08_DaytimeSeconds.j0 k a1 t313 true t310 t311 t312)) else (fuseelaw08_DaytimeSeconds.j0 k a1 t313 true t310 t311 t312)))))) else (if (false != (decide (t315 ≥ 0))) = true then (fuseelaw08_DaytimeSeconds.j0 k a1 t313 true t310 t311 t312) else (if t309.isNone = true then (if (true != (decide (t315 ≥ 0))) = true then (fuseelaw08_DaytimeSeconds.j0 k a1 t313 true t310 t311 t312) else (fuseelaw08_DaytimeSeconds.j0 k a1 t313 (t308 != t315) t310 t311 t312)) else ((fuseelaw08_num.f (some (t309.getD 0))).bind fun t321 => (if t321 = 1 then (if t308 = 0 then (fuseelaw08_DaytimeSeconds.j0 k a1 t313 false t310 t311 t312) else (fuseelaw08_DaytimeSeconds.j0 k a1 t313 true t310 t311 t312)) else (fuseelaw08_DaytimeSeconds.j0 k a1 t313 true t310 t311 t312))))))) = some r := H
  have A5 := Aside0.mk A50
  clear A50
  have HC6 := Aside0.mk H
  clear H
  go_enter Tryz.func6, Tryz.ntmps6
  go_upto_region 5 with (first | ((with_reducible refine gate_dst (N := 2) rfl ?_); refine box_event ?hg (N := 2) ?hd (cs := #[.int .i64 a0_0, .int .i64 a0_1, .int .i64 a0_2]) (t := 49) ?hr ?_; (case hd => rfl); (case hg => rfl); (case hr => first | (go_simp; done) | (go_simp; rfl)); intro gb306 hg w7 hbox hb; have n0_ := Aside0.mk (below_step (by repeat (first | (with_reducible first | exact HB.out | apply below_alloc | apply pw_below_drewN | apply below_drew1) | exact HB.out)) hb); have n1_ := Aside0.mk (hbox); have n2_ := Aside0.mk ((by rw [hg]; exact (below_size (by repeat (first | (with_reducible first | exact HB.out | apply below_alloc | apply pw_below_drewN | apply below_drew1) | exact HB.out))) : w.heap.size ≤ gb306)); have n3_ := Aside0.mk ((by rw [hg]; exact (below_size (by repeat (first | (with_reducible first | exact HB.out | apply below_alloc | apply pw_below_drewN | apply below_drew1) | exact HB.out))) : w.heap.size ≤ gb306)); clear HB; have HB := n0_; have BK306 := n1_; have GW306 := n2_; have GE306 := n3_; clear n0_ n1_ n2_ n3_; clear hb hbox hg; have hcz8_0 : w7.cell? ⟨gb306, 0, none⟩ = some (.int .i64 a0_0) := (blk_cell BK306.out 0).trans rfl; have hcz8_1 : w7.cell? ⟨gb306, 1, none⟩ = some (.int .i64 a0_1) := (blk_cell BK306.out 1).trans rfl; have hcz8_2 : w7.cell? ⟨gb306, 2, none⟩ = some (.int .i64 a0_2) := (blk_cell BK306.out 2).trans rfl; have hfz8_0 := blk_frozen BK306.out 0; have hfz8_1 := blk_frozen BK306.out 1; have hfz8_2 := blk_frozen BK306.out 2) | ((with_reducible refine gate_dst (N := 5) rfl ?_); refine box_event ?hg (N := 5) ?hd (cs := #[.int .i64 0, .int .i64 0, .int .i64 0]) (t := 50) ?hr ?_; (case hd => rfl); (case hg => rfl); (case hr => first | (go_simp; done) | (go_simp; rfl)); intro gb307 hg w9 hbox hb; have n0_ := Aside0.mk (blk_below (g := gb306) (o := .cells #[.int .i64 a0_0, .int .i64 a0_1, .int .i64 a0_2] 49 (0, 0)) (by (with_reducible repeat (first | refine blk_drewN ?_ _ | refine blk_drew ?_ | refine blk_alloc ?_ _)); exact BK306.out) hb); have n1_ := Aside0.mk (below_step (by repeat (first | (with_reducible first | exact HB.out | apply below_alloc | apply pw_below_drewN | apply below_drew1 | refine below_set ?_ GE306.out) | exact HB.out)) hb); have n2_ := Aside0.mk (hbox); have n3_ := Aside0.mk ((by rw [hg]; exact (below_size (by repeat (first | (with_reducible first | exact HB.out | apply below_alloc | apply pw_below_drewN | apply below_drew1 | refine below_set ?_ GE306.out) | exact HB.out))) : w.heap.size ≤ gb307)); have n4_ := Aside0.mk ((by rw [hg]; exact (below_size (by repeat (first | (with_reducible first | exact HB.out | apply below_alloc | apply pw_below_drewN | apply below_drew1 | refine below_set ?_ GE306.out) | exact HB.out))) : w.heap.size ≤ gb307)); have n5_ := Aside0.mk ((by rw [hg]; exact Nat.ne_of_lt (blk_lt (g := gb306) (o := .cells #[.int .i64 a0_0, .int .i64 a0_1, .int .i64 a0_2] 49 (0, 0)) (by (with_reducible repeat (first | refine blk_drewN ?_ _ | refine blk_drew ?_ | refine blk_alloc ?_ _)); exact BK306.out)) : gb306 ≠ gb307)); have n6_ := Aside0.mk ((by rw [hg]; exact Nat.ne_of_gt (blk_lt (g := gb306) (o := .cells #[.int .i64 a0_0, .int .i64 a0_1, .int .i64 a0_2] 49 (0, 0)) (by (with_reducible repeat (first | refine blk_drewN ?_ _ | refine blk_drew ?_ | refine blk_alloc ?_ _)); exact BK306.out)) : gb307 ≠ gb306)); clear BK306; clear HB; have BK306 := n0_; have HB := n1_; have BK307 := n2_; have GW307 := n3_; have GE307 := n4_; have NB306_307 := n5_; have NB307_306 := n6_; clear n0_ n1_ n2_ n3_ n4_ n5_ n6_; clear hb hbox hg; have hnb10 := NB307_306.out; have hnc10 := NB306_307.out; have hcz11_0 : w9.cell? ⟨gb307, 0, none⟩ = some (.int .i64 0) := (blk_cell BK307.out 0).trans rfl; have hcz11_1 : w9.cell? ⟨gb307, 1, none⟩ = some (.int .i64 0) := (blk_cell BK307.out 1).trans rfl; have hcz11_2 : w9.cell? ⟨gb307, 2, none⟩ = some (.int .i64 0) := (blk_cell BK307.out 2).trans rfl; have hfz11_0 := blk_frozen BK307.out 0; have hfz11_1 := blk_frozen BK307.out 1; have hfz11_2 := blk_frozen BK307.out 2) | ((with_reducible refine gate_callee (f := 32) rfl ?_); refine goesL_ (some 14) rfl rfl Tryz.func32 (by kernel_rfl) rfl #[.agg #[.int .i64 a0_0, .int .i64 a0_1, .int .i64 a0_2]] rfl (by (try simp only [List.map_toArray, List.map_cons, List.map_nil]); first | done | rfl | (simp only [List.length_drop, List.length_take]; rfl)) ?_; (with_reducible refine (daytime_Seconds.calls a0_0 a0_1 a0_2 t308 t309 _ A3.out).mono ?_); rintro e w12 ⟨rfl, hb⟩; refine ⟨_, rfl, ?_⟩; have n0_ := Aside0.mk (blk_below (g := gb306) (o := .cells #[.int .i64 a0_0, .int .i64 a0_1, .int .i64 a0_2] 49 (0, 0)) (by (with_reducible repeat (first | refine blk_drewN ?_ _ | refine blk_drew ?_ | refine blk_alloc ?_ _)); refine blk_far ?_ NB306_307.out _; (with_reducible repeat (first | refine blk_drewN ?_ _ | refine blk_drew ?_ | refine blk_alloc ?_ _)); refine blk_far ?_ NB306_307.out _; (with_reducible repeat (first | refine blk_drewN ?_ _ | refine blk_drew ?_ | refine blk_alloc ?_ _)); refine blk_far ?_ NB306_307.out _; (with_reducible repeat (first | refine blk_drewN ?_ _ | refine blk_drew ?_ | refine blk_alloc ?_ _)); exact BK306.out) hb); have n1_ := Aside0.mk (blk_below (g := gb307) (o := .cells #[.int .i64 a0_0, .int .i64 a0_1, .int .i64 a0_2] 50 (0, 0)) (by (with_reducible repeat (first | refine blk_drewN ?_ _ | refine blk_drew ?_ | refine blk_alloc ?_ _)); refine blk_put (cs := #[.int .i64 a0_0, .int .i64 a0_1, .int .i64 0]) ?_ 2 _ rfl; (with_reducible repeat (first | refine blk_drewN ?_ _ | refine blk_drew ?_ | refine blk_alloc ?_ _)); refine blk_put (cs := #[.int .i64 a0_0, .int .i64 0, .int .i64 0]) ?_ 1 _ rfl; (with_reducible repeat (first | refine blk_drewN ?_ _ | refine blk_drew ?_ | refine blk_alloc ?_ _)); refine blk_put (cs := #[.int .i64 0, .int .i64 0, .int .i64 0]) ?_ 0 _ rfl; (with_reducible repeat (first | refine blk_drewN ?_ _ | refine blk_drew ?_ | refine blk_alloc ?_ _)); exact BK307.out) hb); have n2_ := Aside0.mk (below_step (by repeat (first | (with_reducible first | exact HB.out | apply below_alloc | apply pw_below_drewN | apply below_drew1 | refine below_set ?_ GE306.out | refine below_set ?_ GE307.out) | exact HB.out)) hb); clear BK306; clear BK307; clear HB; have BK306 := n0_; have BK307 := n1_; have HB := n2_; clear n0_ n1_ n2_; (try clear hb); (try clear hb2); (try clear hk); (try clear hi); (try simp only [errW_none, errW_some])) | ((with_reducible refine gate_callee (f := 33) rfl ?_); refine goesL_ (some 19) rfl rfl Tryz.func33 (by kernel_rfl) rfl #[.int .i64 a1] rfl (by (try simp only [List.map_toArray, List.map_cons, List.map_nil]); first | done | rfl | (simp only [List.length_drop, List.length_take]; rfl)) ?_; (with_reducible refine (daytime_Of.calls k a1 t310 t311 t312 t313 _ A4.out).mono ?_); rintro e w13 ⟨rfl, hb⟩; refine ⟨_, rfl, ?_⟩; have n0_ := Aside0.mk (blk_below (g := gb306) (o := .cells #[.int .i64 a0_0, .int .i64 a0_1, .int .i64 a0_2] 49 (0, 0)) (by (with_reducible repeat (first | refine blk_drewN ?_ _ | refine blk_drew ?_ | refine blk_alloc ?_ _)); exact BK306.out) hb); have n1_ := Aside0.mk (blk_below (g := gb307) (o := .cells #[.int .i64 a0_0, .int .i64 a0_1, .int .i64 a0_2] 50 (0, 0)) (by (with_reducible repeat (first | refine blk_drewN ?_ _ | refine blk_drew ?_ | refine blk_alloc ?_ _)); exact BK307.out) hb); have n2_ := Aside0.mk (below_step (by repeat (first | (with_reducible first | exact HB.out | apply below_alloc | apply pw_below_drewN | apply below_drew1 | refine below_set ?_ GE306.out | refine below_set ?_ GE307.out) | exact HB.out)) hb); clear BK306; clear BK307; clear HB; have BK306 := n0_; have BK307 := n1_; have HB := n2_; clear n0_ n1_ n2_; (try clear hb); (try clear hb2); (try clear hk); (try clear hi); (try simp only [errW_none, errW_some])) | ((with_reducible refine gate_dst (N := 8) rfl ?_); refine box_event ?hg (N := 8) ?hd (cs := #[.int .i64 0, .int .i64 0, .int .i64 0]) (t := 50) ?hr ?_; (case hd => rfl); (case hg => rfl); (case hr => first | (go_simp; done) | (go_simp; rfl)); intro gb314 hg w14 hbox hb; have n0_ := Aside0.mk (blk_below (g := gb306) (o := .cells #[.int .i64 a0_0, .int .i64 a0_1, .int .i64 a0_2] 49 (0, 0)) (by (with_reducible repeat (first | refine blk_drewN ?_ _ | refine blk_drew ?_ | refine blk_alloc ?_ _)); exact BK306.out) hb); have n1_ := Aside0.mk (blk_below (g := gb307) (o := .cells #[.int .i64 a0_0, .int .i64 a0_1, .int .i64 a0_2] 50 (0, 0)) (by (with_reducible repeat (first | refine blk_drewN ?_ _ | refine blk_drew ?_ | refine blk_alloc ?_ _)); exact BK307.out) hb); have n2_ := Aside0.mk (below_step (by repeat (first | (with_reducible first | exact HB.out | apply below_alloc | apply pw_below_drewN | apply below_drew1 | refine below_set ?_ GE306.out | refine below_set ?_ GE307.out) | exact HB.out)) hb); have n3_ := Aside0.mk (hbox); have n4_ := Aside0.mk ((by rw [hg]; exact (below_size (by repeat (first | (with_reducible first | exact HB.out | apply below_alloc | apply pw_below_drewN | apply below_drew1 | refine below_set ?_ GE306.out | refine below_set ?_ GE307.out) | exact HB.out))) : w.heap.size ≤ gb314)); have n5_ := Aside0.mk ((by rw [hg]; exact (below_size (by repeat (first | (with_reducible first | exact HB.out | apply below_alloc | apply pw_below_drewN | apply below_drew1 | refine below_set ?_ GE306.out | refine below_set ?_ GE307.out) | exact HB.out))) : w.heap.size ≤ gb314)); have n6_ := Aside0.mk ((by rw [hg]; exact Nat.ne_of_lt (blk_lt (g := gb306) (o := .cells #[.int .i64 a0_0, .int .i64 a0_1, .int .i64 a0_2] 49 (0, 0)) (by (with_reducible repeat (first | refine blk_drewN ?_ _ | refine blk_drew ?_ | refine blk_alloc ?_ _)); exact BK306.out)) : gb306 ≠ gb314)); have n7_ := Aside0.mk ((by rw [hg]; exact Nat.ne_of_gt (blk_lt (g := gb306) (o := .cells #[.int .i64 a0_0, .int .i64 a0_1, .int .i64 a0_2] 49 (0, 0)) (by (with_reducible repeat (first | refine blk_drewN ?_ _ | refine blk_drew ?_ | refine blk_alloc ?_ _)); exact BK306.out)) : gb314 ≠ gb306)); have n8_ := Aside0.mk ((by rw [hg]; exact Nat.ne_of_lt (blk_lt (g := gb307) (o := .cells #[.int .i64 a0_0, .int .i64 a0_1, .int .i64 a0_2] 50 (0, 0)) (by (with_reducible repeat (first | refine blk_drewN ?_ _ | refine blk_drew ?_ | refine blk_alloc ?_ _)); exact BK307.out)) : gb307 ≠ gb314)); have n9_ := Aside0.mk ((by rw [hg]; exact Nat.ne_of_gt (blk_lt (g := gb307) (o := .cells #[.int .i64 a0_0, .int .i64 a0_1, .int .i64 a0_2] 50 (0, 0)) (by (with_reducible repeat (first | refine blk_drewN ?_ _ | refine blk_drew ?_ | refine blk_alloc ?_ _)); exact BK307.out)) : gb314 ≠ gb307)); clear BK306; clear BK307; clear HB; have BK306 := n0_; have BK307 := n1_; have HB := n2_; have BK314 := n3_; have GW314 := n4_; have GE314 := n5_; have NB306_314 := n6_; have NB314_306 := n7_; have NB307_314 := n8_; have NB314_307 := n9_; clear n0_ n1_ n2_ n3_ n4_ n5_ n6_ n7_ n8_ n9_; clear hb hbox hg; have hnb15 := NB314_306.out; have hnc15 := NB306_314.out; have hnb16 := NB314_307.out; have hnc16 := NB307_314.out; have hcz17_0 : w14.cell? ⟨gb314, 0, none⟩ = some (.int .i64 0) := (blk_cell BK314.out 0).trans rfl; have hcz17_1 : w14.cell? ⟨gb314, 1, none⟩ = some (.int .i64 0) := (blk_cell BK314.out 1).trans rfl; have hcz17_2 : w14.cell? ⟨gb314, 2, none⟩ = some (.int .i64 0) := (blk_cell BK314.out 2).trans rfl; have hfz17_0 := blk_frozen BK314.out 0; have hfz17_1 := blk_frozen BK314.out 1; have hfz17_2 := blk_frozen BK314.out 2; have hcz18_0 : w14.cell? ⟨gb306, 0, none⟩ = some (.int .i64 a0_0) := (blk_cell BK306.out 0).trans rfl; have hcz18_1 : w14.cell? ⟨gb306, 1, none⟩ = some (.int .i64 a0_1) := (blk_cell BK306.out 1).trans rfl; have hcz18_2 : w14.cell? ⟨gb306, 2, none⟩ = some (.int .i64 a0_2) := (blk_cell BK306.out 2).trans rfl; have hfz18_0 := blk_frozen BK306.out 0; have hfz18_1 := blk_frozen BK306.out 1; have hfz18_2 := blk_frozen BK306.out 2) | ((with_reducible refine gate_callee (f := 34) rfl ?_); refine goesL_ (some 23) rfl rfl Tryz.func34 (by kernel_rfl) rfl #[.agg #[.int .i64 a0_0, .int .i64 a0_1, .int .i64 a0_2]] rfl (by (try simp only [List.map_toArray, List.map_cons, List.map_nil]); first | done | rfl | (simp only [List.length_drop, List.length_take]; rfl)) ?_; (with_reducible refine (fuseeref08_Seconds.calls k a0_0 a0_1 a0_2 t315 _ A5.out).mono ?_); rintro e w19 ⟨rfl, hb⟩; refine ⟨_, rfl, ?_⟩; have n0_ := Aside0.mk (blk_below (g := gb306) (o := .cells #[.int .i64 a0_0, .int .i64 a0_1, .int .i64 a0_2] 49 (0, 0)) (by (with_reducible repeat (first | refine blk_drewN ?_ _ | refine blk_drew ?_ | refine blk_alloc ?_ _)); refine blk_far ?_ NB306_314.out _; (with_reducible repeat (first | refine blk_drewN ?_ _ | refine blk_drew ?_ | refine blk_alloc ?_ _)); refine blk_far ?_ NB306_314.out _; (with_reducible repeat (first | refine blk_drewN ?_ _ | refine blk_drew ?_ | refine blk_alloc ?_ _)); refine blk_far ?_ NB306_314.out _; (with_reducible repeat (first | refine blk_drewN ?_ _ | refine blk_drew ?_ | refine blk_alloc ?_ _)); exact BK306.out) hb); have n1_ := Aside0.mk (blk_below (g := gb307) (o := .cells #[.int .i64 a0_0, .int .i64 a0_1, .int .i64 a0_2] 50 (0, 0)) (by (with_reducible repeat (first | refine blk_drewN ?_ _ | refine blk_drew ?_ | refine blk_alloc ?_ _)); refine blk_far ?_ NB307_314.out _; (with_reducible repeat (first | refine blk_drewN ?_ _ | refine blk_drew ?_ | refine blk_alloc ?_ _)); refine blk_far ?_ NB307_314.out _; (with_reducible repeat (first | refine blk_drewN ?_ _ | refine blk_drew ?_ | refine blk_alloc ?_ _)); refine blk_far ?_ NB307_314.out _; (with_reducible repeat (first | refine blk_drewN ?_ _ | refine blk_drew ?_ | refine blk_alloc ?_ _)); exact BK307.out) hb); have n2_ := Aside0.mk (blk_below (g := gb314) (o := .cells #[.int .i64 t310, .int .i64 t311, .int .i64 t312] 50 (0, 0)) (by (with_reducible repeat (first | refine blk_drewN ?_ _ | refine blk_drew ?_ | refine blk_alloc ?_ _)); refine blk_put (cs := #[.int .i64 t310, .int .i64 t311, .int .i64 0]) ?_ 2 _ rfl; (with_reducible repeat (first | refine blk_drewN ?_ _ | refine blk_drew ?_ | refine blk_alloc ?_ _)); refine blk_put (cs := #[.int .i64 t310, .int .i64 0, .int .i64 0]) ?_ 1 _ rfl; (with_reducible repeat (first | refine blk_drewN ?_ _ | refine blk_drew ?_ | refine blk_alloc ?_ _)); refine blk_put (cs := #[.int .i64 0, .int .i64 0, .int .i64 0]) ?_ 0 _ rfl; (with_reducible repeat (first | refine blk_drewN ?_ _ | refine blk_drew ?_ | refine blk_alloc ?_ _)); exact BK314.out) hb); have n3_ := Aside0.mk (below_step (by repeat (first | (with_reducible first | exact HB.out | apply below_alloc | apply pw_below_drewN | apply below_drew1 | refine below_set ?_ GE306.out | refine below_set ?_ GE307.out | refine below_set ?_ GE314.out) | exact HB.out)) hb); clear BK306; clear BK307; clear BK314; clear HB; have BK306 := n0_; have BK307 := n1_; have BK314 := n2_; have HB := n3_; clear n0_ n1_ n2_ n3_; (try clear hb); (try clear hb2); (try clear hk); (try clear hi)))
  (try simp only [Act.put, List.setIfInBounds_toArray, List.set_cons_zero, List.set_cons_succ])
  go_cut [58] (fun v58 wc => ∃ (kq : Nat) (x58_5 : Bool), v58 = .bool x58_5 ∧ Aside0 (fuseelaw08_DaytimeSeconds.j0 kq a1 t313 x58_5 t310 t311 t312 = some r) ∧ Aside0 (kq ≤ k) ∧ Aside0 (wc.heap[gb306]? = some (.cells #[.int .i64 a0_0, .int .i64 a0_1, .int .i64 a0_2] 49 (0, 0))) ∧ Aside0 (wc.heap[gb307]? = some (.cells #[.int .i64 a0_0, .int .i64 a0_1, .int .i64 a0_2] 50 (0, 0))) ∧ Aside0 (wc.heap[gb314]? = some (.cells #[.int .i64 t310, .int .i64 t311, .int .i64 t312] 50 (0, 0))) ∧ Aside0 (Below w.heap.size w wc))
  case first =>
    have H := HC6.out
    clear HC6
    replace H := Option.bind_eq_some_iff.mp H
    obtain ⟨t316, A200, H⟩ := H
    replace H : (if t316.isNone = true then (if (true != (decide (t315 ≥ 0))) = true then (fuseelaw08_DaytimeSeconds.j0 k a1 t313 true t310 t311 t312) else (if t309.isNone = true then (fuseelaw08_DaytimeSeconds.j0 k a1 t313 (t308 != t315) t310 t311 t312) else (if (false != (decide (t315 ≥ 0))) = true then (fuseelaw08_DaytimeSeconds.j0 k a1 t313 true t310 t311 t312) else ((fuseelaw08_num.f (some (t309.getD 0))).bind fun t319 => (if t319 = 1 then (if t308 = 0 then (fuseelaw08_DaytimeSeconds.j0 k a1 t313 false t310 t311 t312) else (fuseelaw08_DaytimeSeconds.j0 k a1 t313 true t310 t311 t312)) else (fuseelaw08_DaytimeSeconds.j0 k a1 t313 true t310 t311 t312)))))) else (if (false != (decide (t315 ≥ 0))) = true then (fuseelaw08_DaytimeSeconds.j0 k a1 t313 true t310 t311 t312) else (if t309.isNone = true then (if (true != (decide (t315 ≥ 0))) = true then (fuseelaw08_DaytimeSeconds.j0 k a1 t313 true t310 t311 t312) else (fuseelaw08_DaytimeSeconds.j0 k a1 t313 (t308 != t315) t310 t311 t312)) else ((fuseelaw08_num.f (some (t309.getD 0))).bind fun t321 => (if t321 = 1 then (if t308 = 0 then (fuseelaw08_DaytimeSeconds.j0 k a1 t313 false t310 t311 t312) else (fuseelaw08_DaytimeSeconds.j0 k a1 t313 true t310 t311 t312)) else (fuseelaw08_DaytimeSeconds.j0 k a1 t313 true t310 t311 t312)))))) = some r := H
    have A20 := Aside0.mk A200
    clear A200
    rcases t316 with _ | q317
    · have H1 : (if (true != (decide (t315 ≥ 0))) = true then (fuseelaw08_DaytimeSeconds.j0 k a1 t313 true t310 t311 t312) else (if t309.isNone = true then (fuseelaw08_DaytimeSeconds.j0 k a1 t313 (t308 != t315) t310 t311 t312) else (if (false != (decide (t315 ≥ 0))) = true then (fuseelaw08_DaytimeSeconds.j0 k a1 t313 true t310 t311 t312) else ((fuseelaw08_num.f (some (t309.getD 0))).bind fun t319 => (if t319 = 1 then (if t308 = 0 then (fuseelaw08_DaytimeSeconds.j0 k a1 t313 false t310 t311 t312) else (fuseelaw08_DaytimeSeconds.j0 k a1 t313 true t310 t311 t312)) else (fuseelaw08_DaytimeSeconds.j0 k a1 t313 true t310 t311 t312)))))) = some r := by rw [if_pos (show (none : Option Int).isNone = true by rfl)] at H; exact H
      clear H
      have H := H1
      clear H1
      try simp only [errW_none, errW_some]
      by_cases c21 : (true != (decide (t315 ≥ 0))) = true
      · rw [if_pos c21] at H
        have c21b0 : (true != (decide (t315 ≥ 0))) = true := c21
        (try (have c21b1 : decide (true = (decide (t315 ≥ 0))) = false := by simpa using c21))
        (try (have c21b2 : (true == (decide (t315 ≥ 0))) = false := by simpa using c21))
        (try (have c21b3 : ¬ (true = (decide (t315 ≥ 0))) := by simpa using c21))
        clear c21
        (first | rw [c21b0] | (simp only [i64_w, i32_w]; rw [c21b0]) | skip)
        have H' := Aside0.mk H
        clear H
        have hnb22 := NB307_306.out
        have hnc22 := NB306_307.out
        have hnb23 := NB307_314.out
        have hnc23 := NB314_307.out
        have hcz24_0 : w19.cell? ⟨gb307, 0, none⟩ = some (.int .i64 a0_0) := (blk_cell BK307.out 0).trans rfl
        have hcz24_1 : w19.cell? ⟨gb307, 1, none⟩ = some (.int .i64 a0_1) := (blk_cell BK307.out 1).trans rfl
        have hcz24_2 : w19.cell? ⟨gb307, 2, none⟩ = some (.int .i64 a0_2) := (blk_cell BK307.out 2).trans rfl
        have hfz24_0 := blk_frozen BK307.out 0
        have hfz24_1 := blk_frozen BK307.out 1
        have hfz24_2 := blk_frozen BK307.out 2
        go_wp2_with (first | ((with_reducible refine gate_callee (f := 35) rfl ?_); refine goesL_ (some 25) rfl rfl Tryz.func35 (by kernel_rfl) rfl #[.agg #[.int .i64 a0_0, .int .i64 a0_1, .int .i64 a0_2]] rfl (by (try simp only [List.map_toArray, List.map_cons, List.map_nil]); first | done | rfl | (simp only [List.length_drop, List.length_take]; rfl)) ?_; (with_reducible refine (daytime_Check.calls a0_0 a0_1 a0_2 none _ A20.out).mono ?_); rintro e w25 ⟨rfl, hb⟩; refine ⟨_, rfl, ?_⟩; have n0_ := Aside0.mk (blk_below (g := gb306) (o := .cells #[.int .i64 a0_0, .int .i64 a0_1, .int .i64 a0_2] 49 (0, 0)) (by (with_reducible repeat (first | refine blk_drewN ?_ _ | refine blk_drew ?_ | refine blk_alloc ?_ _)); exact BK306.out) hb); have n1_ := Aside0.mk (blk_below (g := gb307) (o := .cells #[.int .i64 a0_0, .int .i64 a0_1, .int .i64 a0_2] 50 (0, 0)) (by (with_reducible repeat (first | refine blk_drewN ?_ _ | refine blk_drew ?_ | refine blk_alloc ?_ _)); exact BK307.out) hb); have n2_ := Aside0.mk (blk_below (g := gb314) (o := .cells #[.int .i64 t310, .int .i64 t311, .int .i64 t312] 50 (0, 0)) (by (with_reducible repeat (first | refine blk_drewN ?_ _ | refine blk_drew ?_ | refine blk_alloc ?_ _)); exact BK314.out) hb); have n3_ := Aside0.mk (below_step (by repeat (first | (with_reducible first | exact HB.out | apply below_alloc | apply pw_below_drewN | apply below_drew1 | refine below_set ?_ GE306.out | refine below_set ?_ GE307.out | refine below_set ?_ GE314.out) | exact HB.out)) hb); clear BK306; clear BK307; clear BK314; clear HB; have BK306 := n0_; have BK307 := n1_; have BK314 := n2_; have HB := n3_; clear n0_ n1_ n2_ n3_; (try clear hb); (try clear hb2); (try clear hk); (try clear hi); (try simp only [errW_none, errW_some])))
        go_meet
        case rel => exact ⟨_, (true), (by first | rfl | (simp; done) | (simp [*]; done)), H', ⟨by first | omega | exact Nat.le_refl _⟩, ⟨by (with_reducible repeat (first | refine blk_drewN ?_ _ | refine blk_drew ?_ | refine blk_alloc ?_ _)); exact BK306.out⟩, ⟨by (with_reducible repeat (first | refine blk_drewN ?_ _ | refine blk_drew ?_ | refine blk_alloc ?_ _)); exact BK307.out⟩, ⟨by (with_reducible repeat (first | refine blk_drewN ?_ _ | refine blk_drew ?_ | refine blk_alloc ?_ _)); exact BK314.out⟩, ⟨by repeat (first | (with_reducible first | exact HB.out | apply below_alloc | apply pw_below_drewN | apply below_drew1 | refine below_set ?_ GE306.out | refine below_set ?_ GE307.out | refine below_set ?_ GE314.out) | exact HB.out)⟩⟩
      · rw [if_neg c21] at H
        have c21b0 : (true != (decide (t315 ≥ 0))) = false := by simpa using c21
        (try (have c21b1 : decide (true = (decide (t315 ≥ 0))) = true := by simpa using c21))
        (try (have c21b2 : (true == (decide (t315 ≥ 0))) = true := by simpa using c21))
        clear c21
        (first | rw [c21b0] | (simp only [i64_w, i32_w]; rw [c21b0]) | skip)
        rcases t309 with _ | q318
        · have H1 : (fuseelaw08_DaytimeSeconds.j0 k a1 t313 (t308 != t315) t310 t311 t312) = some r := by rw [if_pos (show (none : Option Int).isNone = true by rfl)] at H; exact H
          clear H
          have H := H1
          clear H1
          try simp only [errW_none, errW_some]
          have H' := Aside0.mk H
          clear H
          have hnb26 := NB307_306.out
          have hnc26 := NB306_307.out
          have hnb27 := NB307_314.out
          have hnc27 := NB314_307.out
          have hcz28_0 : w19.cell? ⟨gb307, 0, none⟩ = some (.int .i64 a0_0) := (blk_cell BK307.out 0).trans rfl
          have hcz28_1 : w19.cell? ⟨gb307, 1, none⟩ = some (.int .i64 a0_1) := (blk_cell BK307.out 1).trans rfl
          have hcz28_2 : w19.cell? ⟨gb307, 2, none⟩ = some (.int .i64 a0_2) := (blk_cell BK307.out 2).trans rfl
          have hfz28_0 := blk_frozen BK307.out 0
          have hfz28_1 := blk_frozen BK307.out 1
          have hfz28_2 := blk_frozen BK307.out 2
          go_wp2_with (first | ((with_reducible refine gate_callee (f := 35) rfl ?_); refine goesL_ (some 25) rfl rfl Tryz.func35 (by kernel_rfl) rfl #[.agg #[.int .i64 a0_0, .int .i64 a0_1, .int .i64 a0_2]] rfl (by (try simp only [List.map_toArray, List.map_cons, List.map_nil]); first | done | rfl | (simp only [List.length_drop, List.length_take]; rfl)) ?_; (with_reducible refine (daytime_Check.calls a0_0 a0_1 a0_2 none _ A20.out).mono ?_); rintro e w29 ⟨rfl, hb⟩; refine ⟨_, rfl, ?_⟩; have n0_ := Aside0.mk (blk_below (g := gb306) (o := .cells #[.int .i64 a0_0, .int .i64 a0_1, .int .i64 a0_2] 49 (0, 0)) (by (with_reducible repeat (first | refine blk_drewN ?_ _ | refine blk_drew ?_ | refine blk_alloc ?_ _)); exact BK306.out) hb); have n1_ := Aside0.mk (blk_below (g := gb307) (o := .cells #[.int .i64 a0_0, .int .i64 a0_1, .int .i64 a0_2] 50 (0, 0)) (by (with_reducible repeat (first | refine blk_drewN ?_ _ | refine blk_drew ?_ | refine blk_alloc ?_ _)); exact BK307.out) hb); have n2_ := Aside0.mk (blk_below (g := gb314) (o := .cells #[.int .i64 t310, .int .i64 t311, .int .i64 t312] 50 (0, 0)) (by (with_reducible repeat (first | refine blk_drewN ?_ _ | refine blk_drew ?_ | refine blk_alloc ?_ _)); exact BK314.out) hb); have n3_ := Aside0.mk (below_step (by repeat (first | (with_reducible first | exact HB.out | apply below_alloc | apply pw_below_drewN | apply below_drew1 | refine below_set ?_ GE306.out | refine below_set ?_ GE307.out | refine below_set ?_ GE314.out) | exact HB.out)) hb); clear BK306; clear BK307; clear BK314; clear HB; have BK306 := n0_; have BK307 := n1_; have BK314 := n2_; have HB := n3_; clear n0_ n1_ n2_ n3_; (try clear hb); (try clear hb2); (try clear hk); (try clear hi); (try simp only [errW_none, errW_some])))
          go_meet
          case rel => exact ⟨_, ((t308 != t315)), (by first | rfl | (simp; done) | (simp [*]; done)), H', ⟨by first | omega | exact Nat.le_refl _⟩, ⟨by (with_reducible repeat (first | refine blk_drewN ?_ _ | refine blk_drew ?_ | refine blk_alloc ?_ _)); exact BK306.out⟩, ⟨by (with_reducible repeat (first | refine blk_drewN ?_ _ | refine blk_drew ?_ | refine blk_alloc ?_ _)); exact BK307.out⟩, ⟨by (with_reducible repeat (first | refine blk_drewN ?_ _ | refine blk_drew ?_ | refine blk_alloc ?_ _)); exact BK314.out⟩, ⟨by repeat (first | (with_reducible first | exact HB.out | apply below_alloc | apply pw_below_drewN | apply below_drew1 | refine below_set ?_ GE306.out | refine below_set ?_ GE307.out | refine below_set ?_ GE314.out) | exact HB.out)⟩⟩
        · have H1 : (if (false != (decide (t315 ≥ 0))) = true then (fuseelaw08_DaytimeSeconds.j0 k a1 t313 true t310 t311 t312) else ((fuseelaw08_num.f (some q318)).bind fun t319 => (if t319 = 1 then (if t308 = 0 then (fuseelaw08_DaytimeSeconds.j0 k a1 t313 false t310 t311 t312) else (fuseelaw08_DaytimeSeconds.j0 k a1 t313 true t310 t311 t312)) else (fuseelaw08_DaytimeSeconds.j0 k a1 t313 true t310 t311 t312)))) = some r := by rw [if_neg (show ¬ (some q318).isNone = true by simp)] at H; exact H
          clear H
          have H := H1
          clear H1
          try simp only [errW_none, errW_some]
          by_cases c30 : (false != (decide (t315 ≥ 0))) = true
          · rw [if_pos c30] at H
            have c30b0 : (false != (decide (t315 ≥ 0))) = true := c30
            (try (have c30b1 : decide (false = (decide (t315 ≥ 0))) = false := by simpa using c30))
            (try (have c30b2 : (false == (decide (t315 ≥ 0))) = false := by simpa using c30))
            (try (have c30b3 : ¬ (false = (decide (t315 ≥ 0))) := by simpa using c30))
            clear c30
            have H' := Aside0.mk H
            clear H
            have hnb31 := NB307_306.out
            have hnc31 := NB306_307.out
            have hnb32 := NB307_314.out
            have hnc32 := NB314_307.out
            have hcz33_0 : w19.cell? ⟨gb307, 0, none⟩ = some (.int .i64 a0_0) := (blk_cell BK307.out 0).trans rfl
            have hcz33_1 : w19.cell? ⟨gb307, 1, none⟩ = some (.int .i64 a0_1) := (blk_cell BK307.out 1).trans rfl
            have hcz33_2 : w19.cell? ⟨gb307, 2, none⟩ = some (.int .i64 a0_2) := (blk_cell BK307.out 2).trans rfl
            have hfz33_0 := blk_frozen BK307.out 0
            have hfz33_1 := blk_frozen BK307.out 1
            have hfz33_2 := blk_frozen BK307.out 2
            go_wp2_with (first | ((with_reducible refine gate_callee (f := 35) rfl ?_); refine goesL_ (some 25) rfl rfl Tryz.func35 (by kernel_rfl) rfl #[.agg #[.int .i64 a0_0, .int .i64 a0_1, .int .i64 a0_2]] rfl (by (try simp only [List.map_toArray, List.map_cons, List.map_nil]); first | done | rfl | (simp only [List.length_drop, List.length_take]; rfl)) ?_; (with_reducible refine (daytime_Check.calls a0_0 a0_1 a0_2 none _ A20.out).mono ?_); rintro e w34 ⟨rfl, hb⟩; refine ⟨_, rfl, ?_⟩; have n0_ := Aside0.mk (blk_below (g := gb306) (o := .cells #[.int .i64 a0_0, .int .i64 a0_1, .int .i64 a0_2] 49 (0, 0)) (by (with_reducible repeat (first | refine blk_drewN ?_ _ | refine blk_drew ?_ | refine blk_alloc ?_ _)); exact BK306.out) hb); have n1_ := Aside0.mk (blk_below (g := gb307) (o := .cells #[.int .i64 a0_0, .int .i64 a0_1, .int .i64 a0_2] 50 (0, 0)) (by (with_reducible repeat (first | refine blk_drewN ?_ _ | refine blk_drew ?_ | refine blk_alloc ?_ _)); exact BK307.out) hb); have n2_ := Aside0.mk (blk_below (g := gb314) (o := .cells #[.int .i64 t310, .int .i64 t311, .int .i64 t312] 50 (0, 0)) (by (with_reducible repeat (first | refine blk_drewN ?_ _ | refine blk_drew ?_ | refine blk_alloc ?_ _)); exact BK314.out) hb); have n3_ := Aside0.mk (below_step (by repeat (first | (with_reducible first | exact HB.out | apply below_alloc | apply pw_below_drewN | apply below_drew1 | refine below_set ?_ GE306.out | refine below_set ?_ GE307.out | refine below_set ?_ GE314.out) | exact HB.out)) hb); clear BK306; clear BK307; clear BK314; clear HB; have BK306 := n0_; have BK307 := n1_; have BK314 := n2_; have HB := n3_; clear n0_ n1_ n2_ n3_; (try clear hb); (try clear hb2); (try clear hk); (try clear hi); (try simp only [errW_none, errW_some])))
            go_meet
            case rel => exact ⟨_, (true), (by first | rfl | (simp; done) | (simp [*]; done)), H', ⟨by first | omega | exact Nat.le_refl _⟩, ⟨by (with_reducible repeat (first | refine blk_drewN ?_ _ | refine blk_drew ?_ | refine blk_alloc ?_ _)); exact BK306.out⟩, ⟨by (with_reducible repeat (first | refine blk_drewN ?_ _ | refine blk_drew ?_ | refine blk_alloc ?_ _)); exact BK307.out⟩, ⟨by (with_reducible repeat (first | refine blk_drewN ?_ _ | refine blk_drew ?_ | refine blk_alloc ?_ _)); exact BK314.out⟩, ⟨by repeat (first | (with_reducible first | exact HB.out | apply below_alloc | apply pw_below_drewN | apply below_drew1 | refine below_set ?_ GE306.out | refine below_set ?_ GE307.out | refine below_set ?_ GE314.out) | exact HB.out)⟩⟩
          · rw [if_neg c30] at H
            have c30b0 : (false != (decide (t315 ≥ 0))) = false := by simpa using c30
            (try (have c30b1 : decide (false = (decide (t315 ≥ 0))) = true := by simpa using c30))
            (try (have c30b2 : (false == (decide (t315 ≥ 0))) = true := by simpa using c30))
            clear c30
            replace H := Option.bind_eq_some_iff.mp H
            obtain ⟨t319, A350, H⟩ := H
            replace H : (if t319 = 1 then (if t308 = 0 then (fuseelaw08_DaytimeSeconds.j0 k a1 t313 false t310 t311 t312) else (fuseelaw08_DaytimeSeconds.j0 k a1 t313 true t310 t311 t312)) else (fuseelaw08_DaytimeSeconds.j0 k a1 t313 true t310 t311 t312)) = some r := H
            have A35 := Aside0.mk A350
            clear A350
            by_cases c36 : t319 = 1
            · rw [if_pos c36] at H
              have c36b0 : (t319 == 1) = true := beq_iff_eq.mpr c36
              have c36b1 : (t319 != 1) = false := bne_eq_false_iff_eq.mpr c36
              clear c36
              by_cases c37 : t308 = 0
              · rw [if_pos c37] at H
                have c37b0 : (t308 == 0) = true := beq_iff_eq.mpr c37
                have c37b1 : (t308 != 0) = false := bne_eq_false_iff_eq.mpr c37
                clear c37
                have H' := Aside0.mk H
                clear H
                have hnb38 := NB307_306.out
                have hnc38 := NB306_307.out
                have hnb39 := NB307_314.out
                have hnc39 := NB314_307.out
                have hcz40_0 : w19.cell? ⟨gb307, 0, none⟩ = some (.int .i64 a0_0) := (blk_cell BK307.out 0).trans rfl
                have hcz40_1 : w19.cell? ⟨gb307, 1, none⟩ = some (.int .i64 a0_1) := (blk_cell BK307.out 1).trans rfl
                have hcz40_2 : w19.cell? ⟨gb307, 2, none⟩ = some (.int .i64 a0_2) := (blk_cell BK307.out 2).trans rfl
                have hfz40_0 := blk_frozen BK307.out 0
                have hfz40_1 := blk_frozen BK307.out 1
                have hfz40_2 := blk_frozen BK307.out 2
                go_wp2_with (first | ((with_reducible refine gate_callee (f := 35) rfl ?_); refine goesL_ (some 25) rfl rfl Tryz.func35 (by kernel_rfl) rfl #[.agg #[.int .i64 a0_0, .int .i64 a0_1, .int .i64 a0_2]] rfl (by (try simp only [List.map_toArray, List.map_cons, List.map_nil]); first | done | rfl | (simp only [List.length_drop, List.length_take]; rfl)) ?_; (with_reducible refine (daytime_Check.calls a0_0 a0_1 a0_2 none _ A20.out).mono ?_); rintro e w41 ⟨rfl, hb⟩; refine ⟨_, rfl, ?_⟩; have n0_ := Aside0.mk (blk_below (g := gb306) (o := .cells #[.int .i64 a0_0, .int .i64 a0_1, .int .i64 a0_2] 49 (0, 0)) (by (with_reducible repeat (first | refine blk_drewN ?_ _ | refine blk_drew ?_ | refine blk_alloc ?_ _)); exact BK306.out) hb); have n1_ := Aside0.mk (blk_below (g := gb307) (o := .cells #[.int .i64 a0_0, .int .i64 a0_1, .int .i64 a0_2] 50 (0, 0)) (by (with_reducible repeat (first | refine blk_drewN ?_ _ | refine blk_drew ?_ | refine blk_alloc ?_ _)); exact BK307.out) hb); have n2_ := Aside0.mk (blk_below (g := gb314) (o := .cells #[.int .i64 t310, .int .i64 t311, .int .i64 t312] 50 (0, 0)) (by (with_reducible repeat (first | refine blk_drewN ?_ _ | refine blk_drew ?_ | refine blk_alloc ?_ _)); exact BK314.out) hb); have n3_ := Aside0.mk (below_step (by repeat (first | (with_reducible first | exact HB.out | apply below_alloc | apply pw_below_drewN | apply below_drew1 | refine below_set ?_ GE306.out | refine below_set ?_ GE307.out | refine below_set ?_ GE314.out) | exact HB.out)) hb); clear BK306; clear BK307; clear BK314; clear HB; have BK306 := n0_; have BK307 := n1_; have BK314 := n2_; have HB := n3_; clear n0_ n1_ n2_ n3_; (try clear hb); (try clear hb2); (try clear hk); (try clear hi); (try simp only [errW_none, errW_some]); have CA35 := fun W HL_ => fuseelaw08_num.calls (some q318) t319 W HL_ A35.out; try simp only [errW_none, errW_some] at CA35) | (go_at_call 36; (with_reducible refine (CA35 _ (by first | exact Laid.below HL.out (by repeat (first | (with_reducible first | exact HB.out | apply below_alloc | apply pw_below_drewN | apply below_drew1 | refine below_set ?_ (Aside0.out (by assumption))) | exact HB.out)))).mono ?_); rintro e w42 ⟨rfl, hb⟩; have n0_ := Aside0.mk (blk_below (g := gb306) (o := .cells #[.int .i64 a0_0, .int .i64 a0_1, .int .i64 a0_2] 49 (0, 0)) (by (with_reducible repeat (first | refine blk_drewN ?_ _ | refine blk_drew ?_ | refine blk_alloc ?_ _)); exact BK306.out) hb); have n1_ := Aside0.mk (blk_below (g := gb307) (o := .cells #[.int .i64 a0_0, .int .i64 a0_1, .int .i64 a0_2] 50 (0, 0)) (by (with_reducible repeat (first | refine blk_drewN ?_ _ | refine blk_drew ?_ | refine blk_alloc ?_ _)); exact BK307.out) hb); have n2_ := Aside0.mk (blk_below (g := gb314) (o := .cells #[.int .i64 t310, .int .i64 t311, .int .i64 t312] 50 (0, 0)) (by (with_reducible repeat (first | refine blk_drewN ?_ _ | refine blk_drew ?_ | refine blk_alloc ?_ _)); exact BK314.out) hb); have n3_ := Aside0.mk (below_step (by repeat (first | (with_reducible first | exact HB.out | apply below_alloc | apply pw_below_drewN | apply below_drew1 | refine below_set ?_ GE306.out | refine below_set ?_ GE307.out | refine below_set ?_ GE314.out) | exact HB.out)) hb); clear BK306; clear BK307; clear BK314; clear HB; have BK306 := n0_; have BK307 := n1_; have BK314 := n2_; have HB := n3_; clear n0_ n1_ n2_ n3_; (try clear hb); (try clear hb2); (try clear hk); (try clear hi)))
                go_meet
                case rel => exact ⟨_, (false), (by first | rfl | (simp; done) | (simp [*]; done)), H', ⟨by first | omega | exact Nat.le_refl _⟩, ⟨by (with_reducible repeat (first | refine blk_drewN ?_ _ | refine blk_drew ?_ | refine blk_alloc ?_ _)); exact BK306.out⟩, ⟨by (with_reducible repeat (first | refine blk_drewN ?_ _ | refine blk_drew ?_ | refine blk_alloc ?_ _)); exact BK307.out⟩, ⟨by (with_reducible repeat (first | refine blk_drewN ?_ _ | refine blk_drew ?_ | refine blk_alloc ?_ _)); exact BK314.out⟩, ⟨by repeat (first | (with_reducible first | exact HB.out | apply below_alloc | apply pw_below_drewN | apply below_drew1 | refine below_set ?_ GE306.out | refine below_set ?_ GE307.out | refine below_set ?_ GE314.out) | exact HB.out)⟩⟩
              · rw [if_neg c37] at H
                have c37b0 : (t308 == 0) = false := beq_eq_false_iff_ne.mpr c37
                have c37b1 : (t308 != 0) = true := bne_iff_ne.mpr c37
                have H' := Aside0.mk H
                clear H
                have hnb43 := NB307_306.out
                have hnc43 := NB306_307.out
                have hnb44 := NB307_314.out
                have hnc44 := NB314_307.out
                have hcz45_0 : w19.cell? ⟨gb307, 0, none⟩ = some (.int .i64 a0_0) := (blk_cell BK307.out 0).trans rfl
                have hcz45_1 : w19.cell? ⟨gb307, 1, none⟩ = some (.int .i64 a0_1) := (blk_cell BK307.out 1).trans rfl
                have hcz45_2 : w19.cell? ⟨gb307, 2, none⟩ = some (.int .i64 a0_2) := (blk_cell BK307.out 2).trans rfl
                have hfz45_0 := blk_frozen BK307.out 0
                have hfz45_1 := blk_frozen BK307.out 1
                have hfz45_2 := blk_frozen BK307.out 2
                go_wp2_with (first | ((with_reducible refine gate_callee (f := 35) rfl ?_); refine goesL_ (some 25) rfl rfl Tryz.func35 (by kernel_rfl) rfl #[.agg #[.int .i64 a0_0, .int .i64 a0_1, .int .i64 a0_2]] rfl (by (try simp only [List.map_toArray, List.map_cons, List.map_nil]); first | done | rfl | (simp only [List.length_drop, List.length_take]; rfl)) ?_; (with_reducible refine (daytime_Check.calls a0_0 a0_1 a0_2 none _ A20.out).mono ?_); rintro e w46 ⟨rfl, hb⟩; refine ⟨_, rfl, ?_⟩; have n0_ := Aside0.mk (blk_below (g := gb306) (o := .cells #[.int .i64 a0_0, .int .i64 a0_1, .int .i64 a0_2] 49 (0, 0)) (by (with_reducible repeat (first | refine blk_drewN ?_ _ | refine blk_drew ?_ | refine blk_alloc ?_ _)); exact BK306.out) hb); have n1_ := Aside0.mk (blk_below (g := gb307) (o := .cells #[.int .i64 a0_0, .int .i64 a0_1, .int .i64 a0_2] 50 (0, 0)) (by (with_reducible repeat (first | refine blk_drewN ?_ _ | refine blk_drew ?_ | refine blk_alloc ?_ _)); exact BK307.out) hb); have n2_ := Aside0.mk (blk_below (g := gb314) (o := .cells #[.int .i64 t310, .int .i64 t311, .int .i64 t312] 50 (0, 0)) (by (with_reducible repeat (first | refine blk_drewN ?_ _ | refine blk_drew ?_ | refine blk_alloc ?_ _)); exact BK314.out) hb); have n3_ := Aside0.mk (below_step (by repeat (first | (with_reducible first | exact HB.out | apply below_alloc | apply pw_below_drewN | apply below_drew1 | refine below_set ?_ GE306.out | refine below_set ?_ GE307.out | refine below_set ?_ GE314.out) | exact HB.out)) hb); clear BK306; clear BK307; clear BK314; clear HB; have BK306 := n0_; have BK307 := n1_; have BK314 := n2_; have HB := n3_; clear n0_ n1_ n2_ n3_; (try clear hb); (try clear hb2); (try clear hk); (try clear hi); (try simp only [errW_none, errW_some]); have CA35 := fun W HL_ => fuseelaw08_num.calls (some q318) t319 W HL_ A35.out; try simp only [errW_none, errW_some] at CA35) | (go_at_call 36; (with_reducible refine (CA35 _ (by first | exact Laid.below HL.out (by repeat (first | (with_reducible first | exact HB.out | apply below_alloc | apply pw_below_drewN | apply below_drew1 | refine below_set ?_ (Aside0.out (by assumption))) | exact HB.out)))).mono ?_); rintro e w47 ⟨rfl, hb⟩; have n0_ := Aside0.mk (blk_below (g := gb306) (o := .cells #[.int .i64 a0_0, .int .i64 a0_1, .int .i64 a0_2] 49 (0, 0)) (by (with_reducible repeat (first | refine blk_drewN ?_ _ | refine blk_drew ?_ | refine blk_alloc ?_ _)); exact BK306.out) hb); have n1_ := Aside0.mk (blk_below (g := gb307) (o := .cells #[.int .i64 a0_0, .int .i64 a0_1, .int .i64 a0_2] 50 (0, 0)) (by (with_reducible repeat (first | refine blk_drewN ?_ _ | refine blk_drew ?_ | refine blk_alloc ?_ _)); exact BK307.out) hb); have n2_ := Aside0.mk (blk_below (g := gb314) (o := .cells #[.int .i64 t310, .int .i64 t311, .int .i64 t312] 50 (0, 0)) (by (with_reducible repeat (first | refine blk_drewN ?_ _ | refine blk_drew ?_ | refine blk_alloc ?_ _)); exact BK314.out) hb); have n3_ := Aside0.mk (below_step (by repeat (first | (with_reducible first | exact HB.out | apply below_alloc | apply pw_below_drewN | apply below_drew1 | refine below_set ?_ GE306.out | refine below_set ?_ GE307.out | refine below_set ?_ GE314.out) | exact HB.out)) hb); clear BK306; clear BK307; clear BK314; clear HB; have BK306 := n0_; have BK307 := n1_; have BK314 := n2_; have HB := n3_; clear n0_ n1_ n2_ n3_; (try clear hb); (try clear hb2); (try clear hk); (try clear hi)))
                go_meet
                case rel => exact ⟨_, (true), (by first | rfl | (simp; done) | (simp [*]; done)), H', ⟨by first | omega | exact Nat.le_refl _⟩, ⟨by (with_reducible repeat (first | refine blk_drewN ?_ _ | refine blk_drew ?_ | refine blk_alloc ?_ _)); exact BK306.out⟩, ⟨by (with_reducible repeat (first | refine blk_drewN ?_ _ | refine blk_drew ?_ | refine blk_alloc ?_ _)); exact BK307.out⟩, ⟨by (with_reducible repeat (first | refine blk_drewN ?_ _ | refine blk_drew ?_ | refine blk_alloc ?_ _)); exact BK314.out⟩, ⟨by repeat (first | (with_reducible first | exact HB.out | apply below_alloc | apply pw_below_drewN | apply below_drew1 | refine below_set ?_ GE306.out | refine below_set ?_ GE307.out | refine below_set ?_ GE314.out) | exact HB.out)⟩⟩
            · rw [if_neg c36] at H
              have c36b0 : (t319 == 1) = false := beq_eq_false_iff_ne.mpr c36
              have c36b1 : (t319 != 1) = true := bne_iff_ne.mpr c36
              have H' := Aside0.mk H
              clear H
              have hnb48 := NB307_306.out
              have hnc48 := NB306_307.out
              have hnb49 := NB307_314.out
              have hnc49 := NB314_307.out
              have hcz50_0 : w19.cell? ⟨gb307, 0, none⟩ = some (.int .i64 a0_0) := (blk_cell BK307.out 0).trans rfl
              have hcz50_1 : w19.cell? ⟨gb307, 1, none⟩ = some (.int .i64 a0_1) := (blk_cell BK307.out 1).trans rfl
              have hcz50_2 : w19.cell? ⟨gb307, 2, none⟩ = some (.int .i64 a0_2) := (blk_cell BK307.out 2).trans rfl
              have hfz50_0 := blk_frozen BK307.out 0
              have hfz50_1 := blk_frozen BK307.out 1
              have hfz50_2 := blk_frozen BK307.out 2
              go_wp2_with (first | ((with_reducible refine gate_callee (f := 35) rfl ?_); refine goesL_ (some 25) rfl rfl Tryz.func35 (by kernel_rfl) rfl #[.agg #[.int .i64 a0_0, .int .i64 a0_1, .int .i64 a0_2]] rfl (by (try simp only [List.map_toArray, List.map_cons, List.map_nil]); first | done | rfl | (simp only [List.length_drop, List.length_take]; rfl)) ?_; (with_reducible refine (daytime_Check.calls a0_0 a0_1 a0_2 none _ A20.out).mono ?_); rintro e w51 ⟨rfl, hb⟩; refine ⟨_, rfl, ?_⟩; have n0_ := Aside0.mk (blk_below (g := gb306) (o := .cells #[.int .i64 a0_0, .int .i64 a0_1, .int .i64 a0_2] 49 (0, 0)) (by (with_reducible repeat (first | refine blk_drewN ?_ _ | refine blk_drew ?_ | refine blk_alloc ?_ _)); exact BK306.out) hb); have n1_ := Aside0.mk (blk_below (g := gb307) (o := .cells #[.int .i64 a0_0, .int .i64 a0_1, .int .i64 a0_2] 50 (0, 0)) (by (with_reducible repeat (first | refine blk_drewN ?_ _ | refine blk_drew ?_ | refine blk_alloc ?_ _)); exact BK307.out) hb); have n2_ := Aside0.mk (blk_below (g := gb314) (o := .cells #[.int .i64 t310, .int .i64 t311, .int .i64 t312] 50 (0, 0)) (by (with_reducible repeat (first | refine blk_drewN ?_ _ | refine blk_drew ?_ | refine blk_alloc ?_ _)); exact BK314.out) hb); have n3_ := Aside0.mk (below_step (by repeat (first | (with_reducible first | exact HB.out | apply below_alloc | apply pw_below_drewN | apply below_drew1 | refine below_set ?_ GE306.out | refine below_set ?_ GE307.out | refine below_set ?_ GE314.out) | exact HB.out)) hb); clear BK306; clear BK307; clear BK314; clear HB; have BK306 := n0_; have BK307 := n1_; have BK314 := n2_; have HB := n3_; clear n0_ n1_ n2_ n3_; (try clear hb); (try clear hb2); (try clear hk); (try clear hi); (try simp only [errW_none, errW_some]); have CA35 := fun W HL_ => fuseelaw08_num.calls (some q318) t319 W HL_ A35.out; try simp only [errW_none, errW_some] at CA35) | (go_at_call 36; (with_reducible refine (CA35 _ (by first | exact Laid.below HL.out (by repeat (first | (with_reducible first | exact HB.out | apply below_alloc | apply pw_below_drewN | apply below_drew1 | refine below_set ?_ (Aside0.out (by assumption))) | exact HB.out)))).mono ?_); rintro e w52 ⟨rfl, hb⟩; have n0_ := Aside0.mk (blk_below (g := gb306) (o := .cells #[.int .i64 a0_0, .int .i64 a0_1, .int .i64 a0_2] 49 (0, 0)) (by (with_reducible repeat (first | refine blk_drewN ?_ _ | refine blk_drew ?_ | refine blk_alloc ?_ _)); exact BK306.out) hb); have n1_ := Aside0.mk (blk_below (g := gb307) (o := .cells #[.int .i64 a0_0, .int .i64 a0_1, .int .i64 a0_2] 50 (0, 0)) (by (with_reducible repeat (first | refine blk_drewN ?_ _ | refine blk_drew ?_ | refine blk_alloc ?_ _)); exact BK307.out) hb); have n2_ := Aside0.mk (blk_below (g := gb314) (o := .cells #[.int .i64 t310, .int .i64 t311, .int .i64 t312] 50 (0, 0)) (by (with_reducible repeat (first | refine blk_drewN ?_ _ | refine blk_drew ?_ | refine blk_alloc ?_ _)); exact BK314.out) hb); have n3_ := Aside0.mk (below_step (by repeat (first | (with_reducible first | exact HB.out | apply below_alloc | apply pw_below_drewN | apply below_drew1 | refine below_set ?_ GE306.out | refine below_set ?_ GE307.out | refine below_set ?_ GE314.out) | exact HB.out)) hb); clear BK306; clear BK307; clear BK314; clear HB; have BK306 := n0_; have BK307 := n1_; have BK314 := n2_; have HB := n3_; clear n0_ n1_ n2_ n3_; (try clear hb); (try clear hb2); (try clear hk); (try clear hi)))
              go_meet
              case rel => exact ⟨_, (true), (by first | rfl | (simp; done) | (simp [*]; done)), H', ⟨by first | omega | exact Nat.le_refl _⟩, ⟨by (with_reducible repeat (first | refine blk_drewN ?_ _ | refine blk_drew ?_ | refine blk_alloc ?_ _)); exact BK306.out⟩, ⟨by (with_reducible repeat (first | refine blk_drewN ?_ _ | refine blk_drew ?_ | refine blk_alloc ?_ _)); exact BK307.out⟩, ⟨by (with_reducible repeat (first | refine blk_drewN ?_ _ | refine blk_drew ?_ | refine blk_alloc ?_ _)); exact BK314.out⟩, ⟨by repeat (first | (with_reducible first | exact HB.out | apply below_alloc | apply pw_below_drewN | apply below_drew1 | refine below_set ?_ GE306.out | refine below_set ?_ GE307.out | refine below_set ?_ GE314.out) | exact HB.out)⟩⟩
    · have H1 : (if (false != (decide (t315 ≥ 0))) = true then (fuseelaw08_DaytimeSeconds.j0 k a1 t313 true t310 t311 t312) else (if t309.isNone = true then (if (true != (decide (t315 ≥ 0))) = true then (fuseelaw08_DaytimeSeconds.j0 k a1 t313 true t310 t311 t312) else (fuseelaw08_DaytimeSeconds.j0 k a1 t313 (t308 != t315) t310 t311 t312)) else ((fuseelaw08_num.f (some (t309.getD 0))).bind fun t321 => (if t321 = 1 then (if t308 = 0 then (fuseelaw08_DaytimeSeconds.j0 k a1 t313 false t310 t311 t312) else (fuseelaw08_DaytimeSeconds.j0 k a1 t313 true t310 t311 t312)) else (fuseelaw08_DaytimeSeconds.j0 k a1 t313 true t310 t311 t312))))) = some r := by rw [if_neg (show ¬ (some q317).isNone = true by simp)] at H; exact H
      clear H
      have H := H1
      clear H1
      try simp only [errW_none, errW_some]
      by_cases c53 : (false != (decide (t315 ≥ 0))) = true
      · rw [if_pos c53] at H
        have c53b0 : (false != (decide (t315 ≥ 0))) = true := c53
        (try (have c53b1 : decide (false = (decide (t315 ≥ 0))) = false := by simpa using c53))
        (try (have c53b2 : (false == (decide (t315 ≥ 0))) = false := by simpa using c53))
        (try (have c53b3 : ¬ (false = (decide (t315 ≥ 0))) := by simpa using c53))
        clear c53
        have H' := Aside0.mk H
        clear H
        have hnb54 := NB307_306.out
        have hnc54 := NB306_307.out
        have hnb55 := NB307_314.out
        have hnc55 := NB314_307.out
        have hcz56_0 : w19.cell? ⟨gb307, 0, none⟩ = some (.int .i64 a0_0) := (blk_cell BK307.out 0).trans rfl
        have hcz56_1 : w19.cell? ⟨gb307, 1, none⟩ = some (.int .i64 a0_1) := (blk_cell BK307.out 1).trans rfl
        have hcz56_2 : w19.cell? ⟨gb307, 2, none⟩ = some (.int .i64 a0_2) := (blk_cell BK307.out 2).trans rfl
        have hfz56_0 := blk_frozen BK307.out 0
        have hfz56_1 := blk_frozen BK307.out 1
        have hfz56_2 := blk_frozen BK307.out 2
        go_wp2_with (first | ((with_reducible refine gate_callee (f := 35) rfl ?_); refine goesL_ (some 25) rfl rfl Tryz.func35 (by kernel_rfl) rfl #[.agg #[.int .i64 a0_0, .int .i64 a0_1, .int .i64 a0_2]] rfl (by (try simp only [List.map_toArray, List.map_cons, List.map_nil]); first | done | rfl | (simp only [List.length_drop, List.length_take]; rfl)) ?_; (with_reducible refine (daytime_Check.calls a0_0 a0_1 a0_2 (some q317) _ A20.out).mono ?_); rintro e w57 ⟨rfl, hb⟩; refine ⟨_, rfl, ?_⟩; have n0_ := Aside0.mk (blk_below (g := gb306) (o := .cells #[.int .i64 a0_0, .int .i64 a0_1, .int .i64 a0_2] 49 (0, 0)) (by (with_reducible repeat (first | refine blk_drewN ?_ _ | refine blk_drew ?_ | refine blk_alloc ?_ _)); exact BK306.out) hb); have n1_ := Aside0.mk (blk_below (g := gb307) (o := .cells #[.int .i64 a0_0, .int .i64 a0_1, .int .i64 a0_2] 50 (0, 0)) (by (with_reducible repeat (first | refine blk_drewN ?_ _ | refine blk_drew ?_ | refine blk_alloc ?_ _)); exact BK307.out) hb); have n2_ := Aside0.mk (blk_below (g := gb314) (o := .cells #[.int .i64 t310, .int .i64 t311, .int .i64 t312] 50 (0, 0)) (by (with_reducible repeat (first | refine blk_drewN ?_ _ | refine blk_drew ?_ | refine blk_alloc ?_ _)); exact BK314.out) hb); have n3_ := Aside0.mk (below_step (by repeat (first | (with_reducible first | exact HB.out | apply below_alloc | apply pw_below_drewN | apply below_drew1 | refine below_set ?_ GE306.out | refine below_set ?_ GE307.out | refine below_set ?_ GE314.out) | exact HB.out)) hb); clear BK306; clear BK307; clear BK314; clear HB; have BK306 := n0_; have BK307 := n1_; have BK314 := n2_; have HB := n3_; clear n0_ n1_ n2_ n3_; (try clear hb); (try clear hb2); (try clear hk); (try clear hi); (try simp only [errW_none, errW_some])))
        go_meet
        case rel => exact ⟨_, (true), (by first | rfl | (simp; done) | (simp [*]; done)), H', ⟨by first | omega | exact Nat.le_refl _⟩, ⟨by (with_reducible repeat (first | refine blk_drewN ?_ _ | refine blk_drew ?_ | refine blk_alloc ?_ _)); exact BK306.out⟩, ⟨by (with_reducible repeat (first | refine blk_drewN ?_ _ | refine blk_drew ?_ | refine blk_alloc ?_ _)); exact BK307.out⟩, ⟨by (with_reducible repeat (first | refine blk_drewN ?_ _ | refine blk_drew ?_ | refine blk_alloc ?_ _)); exact BK314.out⟩, ⟨by repeat (first | (with_reducible first | exact HB.out | apply below_alloc | apply pw_below_drewN | apply below_drew1 | refine below_set ?_ GE306.out | refine below_set ?_ GE307.out | refine below_set ?_ GE314.out) | exact HB.out)⟩⟩
      · rw [if_neg c53] at H
        have c53b0 : (false != (decide (t315 ≥ 0))) = false := by simpa using c53
        (try (have c53b1 : decide (false = (decide (t315 ≥ 0))) = true := by simpa using c53))
        (try (have c53b2 : (false == (decide (t315 ≥ 0))) = true := by simpa using c53))
        clear c53
        rcases t309 with _ | q320
        · have H1 : (if (true != (decide (t315 ≥ 0))) = true then (fuseelaw08_DaytimeSeconds.j0 k a1 t313 true t310 t311 t312) else (fuseelaw08_DaytimeSeconds.j0 k a1 t313 (t308 != t315) t310 t311 t312)) = some r := by rw [if_pos (show (none : Option Int).isNone = true by rfl)] at H; exact H
          clear H
          have H := H1
          clear H1
          try simp only [errW_none, errW_some]
          by_cases c58 : (true != (decide (t315 ≥ 0))) = true
          · rw [if_pos c58] at H
            have c58b0 : (true != (decide (t315 ≥ 0))) = true := c58
            (try (have c58b1 : decide (true = (decide (t315 ≥ 0))) = false := by simpa using c58))
            (try (have c58b2 : (true == (decide (t315 ≥ 0))) = false := by simpa using c58))
            (try (have c58b3 : ¬ (true = (decide (t315 ≥ 0))) := by simpa using c58))
            clear c58
            have H' := Aside0.mk H
            clear H
            have hnb59 := NB307_306.out
            have hnc59 := NB306_307.out
            have hnb60 := NB307_314.out
            have hnc60 := NB314_307.out
            have hcz61_0 : w19.cell? ⟨gb307, 0, none⟩ = some (.int .i64 a0_0) := (blk_cell BK307.out 0).trans rfl
            have hcz61_1 : w19.cell? ⟨gb307, 1, none⟩ = some (.int .i64 a0_1) := (blk_cell BK307.out 1).trans rfl
            have hcz61_2 : w19.cell? ⟨gb307, 2, none⟩ = some (.int .i64 a0_2) := (blk_cell BK307.out 2).trans rfl
            have hfz61_0 := blk_frozen BK307.out 0
            have hfz61_1 := blk_frozen BK307.out 1
            have hfz61_2 := blk_frozen BK307.out 2
            go_wp2_with (first | ((with_reducible refine gate_callee (f := 35) rfl ?_); refine goesL_ (some 25) rfl rfl Tryz.func35 (by kernel_rfl) rfl #[.agg #[.int .i64 a0_0, .int .i64 a0_1, .int .i64 a0_2]] rfl (by (try simp only [List.map_toArray, List.map_cons, List.map_nil]); first | done | rfl | (simp only [List.length_drop, List.length_take]; rfl)) ?_; (with_reducible refine (daytime_Check.calls a0_0 a0_1 a0_2 (some q317) _ A20.out).mono ?_); rintro e w62 ⟨rfl, hb⟩; refine ⟨_, rfl, ?_⟩; have n0_ := Aside0.mk (blk_below (g := gb306) (o := .cells #[.int .i64 a0_0, .int .i64 a0_1, .int .i64 a0_2] 49 (0, 0)) (by (with_reducible repeat (first | refine blk_drewN ?_ _ | refine blk_drew ?_ | refine blk_alloc ?_ _)); exact BK306.out) hb); have n1_ := Aside0.mk (blk_below (g := gb307) (o := .cells #[.int .i64 a0_0, .int .i64 a0_1, .int .i64 a0_2] 50 (0, 0)) (by (with_reducible repeat (first | refine blk_drewN ?_ _ | refine blk_drew ?_ | refine blk_alloc ?_ _)); exact BK307.out) hb); have n2_ := Aside0.mk (blk_below (g := gb314) (o := .cells #[.int .i64 t310, .int .i64 t311, .int .i64 t312] 50 (0, 0)) (by (with_reducible repeat (first | refine blk_drewN ?_ _ | refine blk_drew ?_ | refine blk_alloc ?_ _)); exact BK314.out) hb); have n3_ := Aside0.mk (below_step (by repeat (first | (with_reducible first | exact HB.out | apply below_alloc | apply pw_below_drewN | apply below_drew1 | refine below_set ?_ GE306.out | refine below_set ?_ GE307.out | refine below_set ?_ GE314.out) | exact HB.out)) hb); clear BK306; clear BK307; clear BK314; clear HB; have BK306 := n0_; have BK307 := n1_; have BK314 := n2_; have HB := n3_; clear n0_ n1_ n2_ n3_; (try clear hb); (try clear hb2); (try clear hk); (try clear hi); (try simp only [errW_none, errW_some])))
            go_meet
            case rel => exact ⟨_, (true), (by first | rfl | (simp; done) | (simp [*]; done)), H', ⟨by first | omega | exact Nat.le_refl _⟩, ⟨by (with_reducible repeat (first | refine blk_drewN ?_ _ | refine blk_drew ?_ | refine blk_alloc ?_ _)); exact BK306.out⟩, ⟨by (with_reducible repeat (first | refine blk_drewN ?_ _ | refine blk_drew ?_ | refine blk_alloc ?_ _)); exact BK307.out⟩, ⟨by (with_reducible repeat (first | refine blk_drewN ?_ _ | refine blk_drew ?_ | refine blk_alloc ?_ _)); exact BK314.out⟩, ⟨by repeat (first | (with_reducible first | exact HB.out | apply below_alloc | apply pw_below_drewN | apply below_drew1 | refine below_set ?_ GE306.out | refine below_set ?_ GE307.out | refine below_set ?_ GE314.out) | exact HB.out)⟩⟩
          · rw [if_neg c58] at H
            have c58b0 : (true != (decide (t315 ≥ 0))) = false := by simpa using c58
            (try (have c58b1 : decide (true = (decide (t315 ≥ 0))) = true := by simpa using c58))
            (try (have c58b2 : (true == (decide (t315 ≥ 0))) = true := by simpa using c58))
            clear c58
            have H' := Aside0.mk H
            clear H
            have hnb63 := NB307_306.out
            have hnc63 := NB306_307.out
            have hnb64 := NB307_314.out
            have hnc64 := NB314_307.out
            have hcz65_0 : w19.cell? ⟨gb307, 0, none⟩ = some (.int .i64 a0_0) := (blk_cell BK307.out 0).trans rfl
            have hcz65_1 : w19.cell? ⟨gb307, 1, none⟩ = some (.int .i64 a0_1) := (blk_cell BK307.out 1).trans rfl
            have hcz65_2 : w19.cell? ⟨gb307, 2, none⟩ = some (.int .i64 a0_2) := (blk_cell BK307.out 2).trans rfl
            have hfz65_0 := blk_frozen BK307.out 0
            have hfz65_1 := blk_frozen BK307.out 1
            have hfz65_2 := blk_frozen BK307.out 2
            go_wp2_with (first | ((with_reducible refine gate_callee (f := 35) rfl ?_); refine goesL_ (some 25) rfl rfl Tryz.func35 (by kernel_rfl) rfl #[.agg #[.int .i64 a0_0, .int .i64 a0_1, .int .i64 a0_2]] rfl (by (try simp only [List.map_toArray, List.map_cons, List.map_nil]); first | done | rfl | (simp only [List.length_drop, List.length_take]; rfl)) ?_; (with_reducible refine (daytime_Check.calls a0_0 a0_1 a0_2 (some q317) _ A20.out).mono ?_); rintro e w66 ⟨rfl, hb⟩; refine ⟨_, rfl, ?_⟩; have n0_ := Aside0.mk (blk_below (g := gb306) (o := .cells #[.int .i64 a0_0, .int .i64 a0_1, .int .i64 a0_2] 49 (0, 0)) (by (with_reducible repeat (first | refine blk_drewN ?_ _ | refine blk_drew ?_ | refine blk_alloc ?_ _)); exact BK306.out) hb); have n1_ := Aside0.mk (blk_below (g := gb307) (o := .cells #[.int .i64 a0_0, .int .i64 a0_1, .int .i64 a0_2] 50 (0, 0)) (by (with_reducible repeat (first | refine blk_drewN ?_ _ | refine blk_drew ?_ | refine blk_alloc ?_ _)); exact BK307.out) hb); have n2_ := Aside0.mk (blk_below (g := gb314) (o := .cells #[.int .i64 t310, .int .i64 t311, .int .i64 t312] 50 (0, 0)) (by (with_reducible repeat (first | refine blk_drewN ?_ _ | refine blk_drew ?_ | refine blk_alloc ?_ _)); exact BK314.out) hb); have n3_ := Aside0.mk (below_step (by repeat (first | (with_reducible first | exact HB.out | apply below_alloc | apply pw_below_drewN | apply below_drew1 | refine below_set ?_ GE306.out | refine below_set ?_ GE307.out | refine below_set ?_ GE314.out) | exact HB.out)) hb); clear BK306; clear BK307; clear BK314; clear HB; have BK306 := n0_; have BK307 := n1_; have BK314 := n2_; have HB := n3_; clear n0_ n1_ n2_ n3_; (try clear hb); (try clear hb2); (try clear hk); (try clear hi); (try simp only [errW_none, errW_some])))
            go_meet
            case rel => exact ⟨_, ((t308 != t315)), (by first | rfl | (simp; done) | (simp [*]; done)), H', ⟨by first | omega | exact Nat.le_refl _⟩, ⟨by (with_reducible repeat (first | refine blk_drewN ?_ _ | refine blk_drew ?_ | refine blk_alloc ?_ _)); exact BK306.out⟩, ⟨by (with_reducible repeat (first | refine blk_drewN ?_ _ | refine blk_drew ?_ | refine blk_alloc ?_ _)); exact BK307.out⟩, ⟨by (with_reducible repeat (first | refine blk_drewN ?_ _ | refine blk_drew ?_ | refine blk_alloc ?_ _)); exact BK314.out⟩, ⟨by repeat (first | (with_reducible first | exact HB.out | apply below_alloc | apply pw_below_drewN | apply below_drew1 | refine below_set ?_ GE306.out | refine below_set ?_ GE307.out | refine below_set ?_ GE314.out) | exact HB.out)⟩⟩
        · have H1 : ((fuseelaw08_num.f (some q320)).bind fun t321 => (if t321 = 1 then (if t308 = 0 then (fuseelaw08_DaytimeSeconds.j0 k a1 t313 false t310 t311 t312) else (fuseelaw08_DaytimeSeconds.j0 k a1 t313 true t310 t311 t312)) else (fuseelaw08_DaytimeSeconds.j0 k a1 t313 true t310 t311 t312))) = some r := by rw [if_neg (show ¬ (some q320).isNone = true by simp)] at H; exact H
          clear H
          have H := H1
          clear H1
          try simp only [errW_none, errW_some]
          replace H := Option.bind_eq_some_iff.mp H
          obtain ⟨t321, A670, H⟩ := H
          replace H : (if t321 = 1 then (if t308 = 0 then (fuseelaw08_DaytimeSeconds.j0 k a1 t313 false t310 t311 t312) else (fuseelaw08_DaytimeSeconds.j0 k a1 t313 true t310 t311 t312)) else (fuseelaw08_DaytimeSeconds.j0 k a1 t313 true t310 t311 t312)) = some r := H
          have A67 := Aside0.mk A670
          clear A670
          by_cases c68 : t321 = 1
          · rw [if_pos c68] at H
            have c68b0 : (t321 == 1) = true := beq_iff_eq.mpr c68
            have c68b1 : (t321 != 1) = false := bne_eq_false_iff_eq.mpr c68
            clear c68
            by_cases c69 : t308 = 0
            · rw [if_pos c69] at H
              have c69b0 : (t308 == 0) = true := beq_iff_eq.mpr c69
              have c69b1 : (t308 != 0) = false := bne_eq_false_iff_eq.mpr c69
              clear c69
              have H' := Aside0.mk H
              clear H
              have hnb70 := NB307_306.out
              have hnc70 := NB306_307.out
              have hnb71 := NB307_314.out
              have hnc71 := NB314_307.out
              have hcz72_0 : w19.cell? ⟨gb307, 0, none⟩ = some (.int .i64 a0_0) := (blk_cell BK307.out 0).trans rfl
              have hcz72_1 : w19.cell? ⟨gb307, 1, none⟩ = some (.int .i64 a0_1) := (blk_cell BK307.out 1).trans rfl
              have hcz72_2 : w19.cell? ⟨gb307, 2, none⟩ = some (.int .i64 a0_2) := (blk_cell BK307.out 2).trans rfl
              have hfz72_0 := blk_frozen BK307.out 0
              have hfz72_1 := blk_frozen BK307.out 1
              have hfz72_2 := blk_frozen BK307.out 2
              go_wp2_with (first | ((with_reducible refine gate_callee (f := 35) rfl ?_); refine goesL_ (some 25) rfl rfl Tryz.func35 (by kernel_rfl) rfl #[.agg #[.int .i64 a0_0, .int .i64 a0_1, .int .i64 a0_2]] rfl (by (try simp only [List.map_toArray, List.map_cons, List.map_nil]); first | done | rfl | (simp only [List.length_drop, List.length_take]; rfl)) ?_; (with_reducible refine (daytime_Check.calls a0_0 a0_1 a0_2 (some q317) _ A20.out).mono ?_); rintro e w73 ⟨rfl, hb⟩; refine ⟨_, rfl, ?_⟩; have n0_ := Aside0.mk (blk_below (g := gb306) (o := .cells #[.int .i64 a0_0, .int .i64 a0_1, .int .i64 a0_2] 49 (0, 0)) (by (with_reducible repeat (first | refine blk_drewN ?_ _ | refine blk_drew ?_ | refine blk_alloc ?_ _)); exact BK306.out) hb); have n1_ := Aside0.mk (blk_below (g := gb307) (o := .cells #[.int .i64 a0_0, .int .i64 a0_1, .int .i64 a0_2] 50 (0, 0)) (by (with_reducible repeat (first | refine blk_drewN ?_ _ | refine blk_drew ?_ | refine blk_alloc ?_ _)); exact BK307.out) hb); have n2_ := Aside0.mk (blk_below (g := gb314) (o := .cells #[.int .i64 t310, .int .i64 t311, .int .i64 t312] 50 (0, 0)) (by (with_reducible repeat (first | refine blk_drewN ?_ _ | refine blk_drew ?_ | refine blk_alloc ?_ _)); exact BK314.out) hb); have n3_ := Aside0.mk (below_step (by repeat (first | (with_reducible first | exact HB.out | apply below_alloc | apply pw_below_drewN | apply below_drew1 | refine below_set ?_ GE306.out | refine below_set ?_ GE307.out | refine below_set ?_ GE314.out) | exact HB.out)) hb); clear BK306; clear BK307; clear BK314; clear HB; have BK306 := n0_; have BK307 := n1_; have BK314 := n2_; have HB := n3_; clear n0_ n1_ n2_ n3_; (try clear hb); (try clear hb2); (try clear hk); (try clear hi); (try simp only [errW_none, errW_some]); have CA67 := fun W HL_ => fuseelaw08_num.calls (some q320) t321 W HL_ A67.out; try simp only [errW_none, errW_some] at CA67) | (go_at_call 36; (with_reducible refine (CA67 _ (by first | exact Laid.below HL.out (by repeat (first | (with_reducible first | exact HB.out | apply below_alloc | apply pw_below_drewN | apply below_drew1 | refine below_set ?_ (Aside0.out (by assumption))) | exact HB.out)))).mono ?_); rintro e w74 ⟨rfl, hb⟩; have n0_ := Aside0.mk (blk_below (g := gb306) (o := .cells #[.int .i64 a0_0, .int .i64 a0_1, .int .i64 a0_2] 49 (0, 0)) (by (with_reducible repeat (first | refine blk_drewN ?_ _ | refine blk_drew ?_ | refine blk_alloc ?_ _)); exact BK306.out) hb); have n1_ := Aside0.mk (blk_below (g := gb307) (o := .cells #[.int .i64 a0_0, .int .i64 a0_1, .int .i64 a0_2] 50 (0, 0)) (by (with_reducible repeat (first | refine blk_drewN ?_ _ | refine blk_drew ?_ | refine blk_alloc ?_ _)); exact BK307.out) hb); have n2_ := Aside0.mk (blk_below (g := gb314) (o := .cells #[.int .i64 t310, .int .i64 t311, .int .i64 t312] 50 (0, 0)) (by (with_reducible repeat (first | refine blk_drewN ?_ _ | refine blk_drew ?_ | refine blk_alloc ?_ _)); exact BK314.out) hb); have n3_ := Aside0.mk (below_step (by repeat (first | (with_reducible first | exact HB.out | apply below_alloc | apply pw_below_drewN | apply below_drew1 | refine below_set ?_ GE306.out | refine below_set ?_ GE307.out | refine below_set ?_ GE314.out) | exact HB.out)) hb); clear BK306; clear BK307; clear BK314; clear HB; have BK306 := n0_; have BK307 := n1_; have BK314 := n2_; have HB := n3_; clear n0_ n1_ n2_ n3_; (try clear hb); (try clear hb2); (try clear hk); (try clear hi)))
              go_meet
              case rel => exact ⟨_, (false), (by first | rfl | (simp; done) | (simp [*]; done)), H', ⟨by first | omega | exact Nat.le_refl _⟩, ⟨by (with_reducible repeat (first | refine blk_drewN ?_ _ | refine blk_drew ?_ | refine blk_alloc ?_ _)); exact BK306.out⟩, ⟨by (with_reducible repeat (first | refine blk_drewN ?_ _ | refine blk_drew ?_ | refine blk_alloc ?_ _)); exact BK307.out⟩, ⟨by (with_reducible repeat (first | refine blk_drewN ?_ _ | refine blk_drew ?_ | refine blk_alloc ?_ _)); exact BK314.out⟩, ⟨by repeat (first | (with_reducible first | exact HB.out | apply below_alloc | apply pw_below_drewN | apply below_drew1 | refine below_set ?_ GE306.out | refine below_set ?_ GE307.out | refine below_set ?_ GE314.out) | exact HB.out)⟩⟩
            · rw [if_neg c69] at H
              have c69b0 : (t308 == 0) = false := beq_eq_false_iff_ne.mpr c69
              have c69b1 : (t308 != 0) = true := bne_iff_ne.mpr c69
              have H' := Aside0.mk H
              clear H
              have hnb75 := NB307_306.out
              have hnc75 := NB306_307.out
              have hnb76 := NB307_314.out
              have hnc76 := NB314_307.out
              have hcz77_0 : w19.cell? ⟨gb307, 0, none⟩ = some (.int .i64 a0_0) := (blk_cell BK307.out 0).trans rfl
              have hcz77_1 : w19.cell? ⟨gb307, 1, none⟩ = some (.int .i64 a0_1) := (blk_cell BK307.out 1).trans rfl
              have hcz77_2 : w19.cell? ⟨gb307, 2, none⟩ = some (.int .i64 a0_2) := (blk_cell BK307.out 2).trans rfl
              have hfz77_0 := blk_frozen BK307.out 0
              have hfz77_1 := blk_frozen BK307.out 1
              have hfz77_2 := blk_frozen BK307.out 2
              go_wp2_with (first | ((with_reducible refine gate_callee (f := 35) rfl ?_); refine goesL_ (some 25) rfl rfl Tryz.func35 (by kernel_rfl) rfl #[.agg #[.int .i64 a0_0, .int .i64 a0_1, .int .i64 a0_2]] rfl (by (try simp only [List.map_toArray, List.map_cons, List.map_nil]); first | done | rfl | (simp only [List.length_drop, List.length_take]; rfl)) ?_; (with_reducible refine (daytime_Check.calls a0_0 a0_1 a0_2 (some q317) _ A20.out).mono ?_); rintro e w78 ⟨rfl, hb⟩; refine ⟨_, rfl, ?_⟩; have n0_ := Aside0.mk (blk_below (g := gb306) (o := .cells #[.int .i64 a0_0, .int .i64 a0_1, .int .i64 a0_2] 49 (0, 0)) (by (with_reducible repeat (first | refine blk_drewN ?_ _ | refine blk_drew ?_ | refine blk_alloc ?_ _)); exact BK306.out) hb); have n1_ := Aside0.mk (blk_below (g := gb307) (o := .cells #[.int .i64 a0_0, .int .i64 a0_1, .int .i64 a0_2] 50 (0, 0)) (by (with_reducible repeat (first | refine blk_drewN ?_ _ | refine blk_drew ?_ | refine blk_alloc ?_ _)); exact BK307.out) hb); have n2_ := Aside0.mk (blk_below (g := gb314) (o := .cells #[.int .i64 t310, .int .i64 t311, .int .i64 t312] 50 (0, 0)) (by (with_reducible repeat (first | refine blk_drewN ?_ _ | refine blk_drew ?_ | refine blk_alloc ?_ _)); exact BK314.out) hb); have n3_ := Aside0.mk (below_step (by repeat (first | (with_reducible first | exact HB.out | apply below_alloc | apply pw_below_drewN | apply below_drew1 | refine below_set ?_ GE306.out | refine below_set ?_ GE307.out | refine below_set ?_ GE314.out) | exact HB.out)) hb); clear BK306; clear BK307; clear BK314; clear HB; have BK306 := n0_; have BK307 := n1_; have BK314 := n2_; have HB := n3_; clear n0_ n1_ n2_ n3_; (try clear hb); (try clear hb2); (try clear hk); (try clear hi); (try simp only [errW_none, errW_some]); have CA67 := fun W HL_ => fuseelaw08_num.calls (some q320) t321 W HL_ A67.out; try simp only [errW_none, errW_some] at CA67) | (go_at_call 36; (with_reducible refine (CA67 _ (by first | exact Laid.below HL.out (by repeat (first | (with_reducible first | exact HB.out | apply below_alloc | apply pw_below_drewN | apply below_drew1 | refine below_set ?_ (Aside0.out (by assumption))) | exact HB.out)))).mono ?_); rintro e w79 ⟨rfl, hb⟩; have n0_ := Aside0.mk (blk_below (g := gb306) (o := .cells #[.int .i64 a0_0, .int .i64 a0_1, .int .i64 a0_2] 49 (0, 0)) (by (with_reducible repeat (first | refine blk_drewN ?_ _ | refine blk_drew ?_ | refine blk_alloc ?_ _)); exact BK306.out) hb); have n1_ := Aside0.mk (blk_below (g := gb307) (o := .cells #[.int .i64 a0_0, .int .i64 a0_1, .int .i64 a0_2] 50 (0, 0)) (by (with_reducible repeat (first | refine blk_drewN ?_ _ | refine blk_drew ?_ | refine blk_alloc ?_ _)); exact BK307.out) hb); have n2_ := Aside0.mk (blk_below (g := gb314) (o := .cells #[.int .i64 t310, .int .i64 t311, .int .i64 t312] 50 (0, 0)) (by (with_reducible repeat (first | refine blk_drewN ?_ _ | refine blk_drew ?_ | refine blk_alloc ?_ _)); exact BK314.out) hb); have n3_ := Aside0.mk (below_step (by repeat (first | (with_reducible first | exact HB.out | apply below_alloc | apply pw_below_drewN | apply below_drew1 | refine below_set ?_ GE306.out | refine below_set ?_ GE307.out | refine below_set ?_ GE314.out) | exact HB.out)) hb); clear BK306; clear BK307; clear BK314; clear HB; have BK306 := n0_; have BK307 := n1_; have BK314 := n2_; have HB := n3_; clear n0_ n1_ n2_ n3_; (try clear hb); (try clear hb2); (try clear hk); (try clear hi)))
              go_meet
              case rel => exact ⟨_, (true), (by first | rfl | (simp; done) | (simp [*]; done)), H', ⟨by first | omega | exact Nat.le_refl _⟩, ⟨by (with_reducible repeat (first | refine blk_drewN ?_ _ | refine blk_drew ?_ | refine blk_alloc ?_ _)); exact BK306.out⟩, ⟨by (with_reducible repeat (first | refine blk_drewN ?_ _ | refine blk_drew ?_ | refine blk_alloc ?_ _)); exact BK307.out⟩, ⟨by (with_reducible repeat (first | refine blk_drewN ?_ _ | refine blk_drew ?_ | refine blk_alloc ?_ _)); exact BK314.out⟩, ⟨by repeat (first | (with_reducible first | exact HB.out | apply below_alloc | apply pw_below_drewN | apply below_drew1 | refine below_set ?_ GE306.out | refine below_set ?_ GE307.out | refine below_set ?_ GE314.out) | exact HB.out)⟩⟩
          · rw [if_neg c68] at H
            have c68b0 : (t321 == 1) = false := beq_eq_false_iff_ne.mpr c68
            have c68b1 : (t321 != 1) = true := bne_iff_ne.mpr c68
            have H' := Aside0.mk H
            clear H
            have hnb80 := NB307_306.out
            have hnc80 := NB306_307.out
            have hnb81 := NB307_314.out
            have hnc81 := NB314_307.out
            have hcz82_0 : w19.cell? ⟨gb307, 0, none⟩ = some (.int .i64 a0_0) := (blk_cell BK307.out 0).trans rfl
            have hcz82_1 : w19.cell? ⟨gb307, 1, none⟩ = some (.int .i64 a0_1) := (blk_cell BK307.out 1).trans rfl
            have hcz82_2 : w19.cell? ⟨gb307, 2, none⟩ = some (.int .i64 a0_2) := (blk_cell BK307.out 2).trans rfl
            have hfz82_0 := blk_frozen BK307.out 0
            have hfz82_1 := blk_frozen BK307.out 1
            have hfz82_2 := blk_frozen BK307.out 2
            go_wp2_with (first | ((with_reducible refine gate_callee (f := 35) rfl ?_); refine goesL_ (some 25) rfl rfl Tryz.func35 (by kernel_rfl) rfl #[.agg #[.int .i64 a0_0, .int .i64 a0_1, .int .i64 a0_2]] rfl (by (try simp only [List.map_toArray, List.map_cons, List.map_nil]); first | done | rfl | (simp only [List.length_drop, List.length_take]; rfl)) ?_; (with_reducible refine (daytime_Check.calls a0_0 a0_1 a0_2 (some q317) _ A20.out).mono ?_); rintro e w83 ⟨rfl, hb⟩; refine ⟨_, rfl, ?_⟩; have n0_ := Aside0.mk (blk_below (g := gb306) (o := .cells #[.int .i64 a0_0, .int .i64 a0_1, .int .i64 a0_2] 49 (0, 0)) (by (with_reducible repeat (first | refine blk_drewN ?_ _ | refine blk_drew ?_ | refine blk_alloc ?_ _)); exact BK306.out) hb); have n1_ := Aside0.mk (blk_below (g := gb307) (o := .cells #[.int .i64 a0_0, .int .i64 a0_1, .int .i64 a0_2] 50 (0, 0)) (by (with_reducible repeat (first | refine blk_drewN ?_ _ | refine blk_drew ?_ | refine blk_alloc ?_ _)); exact BK307.out) hb); have n2_ := Aside0.mk (blk_below (g := gb314) (o := .cells #[.int .i64 t310, .int .i64 t311, .int .i64 t312] 50 (0, 0)) (by (with_reducible repeat (first | refine blk_drewN ?_ _ | refine blk_drew ?_ | refine blk_alloc ?_ _)); exact BK314.out) hb); have n3_ := Aside0.mk (below_step (by repeat (first | (with_reducible first | exact HB.out | apply below_alloc | apply pw_below_drewN | apply below_drew1 | refine below_set ?_ GE306.out | refine below_set ?_ GE307.out | refine below_set ?_ GE314.out) | exact HB.out)) hb); clear BK306; clear BK307; clear BK314; clear HB; have BK306 := n0_; have BK307 := n1_; have BK314 := n2_; have HB := n3_; clear n0_ n1_ n2_ n3_; (try clear hb); (try clear hb2); (try clear hk); (try clear hi); (try simp only [errW_none, errW_some]); have CA67 := fun W HL_ => fuseelaw08_num.calls (some q320) t321 W HL_ A67.out; try simp only [errW_none, errW_some] at CA67) | (go_at_call 36; (with_reducible refine (CA67 _ (by first | exact Laid.below HL.out (by repeat (first | (with_reducible first | exact HB.out | apply below_alloc | apply pw_below_drewN | apply below_drew1 | refine below_set ?_ (Aside0.out (by assumption))) | exact HB.out)))).mono ?_); rintro e w84 ⟨rfl, hb⟩; have n0_ := Aside0.mk (blk_below (g := gb306) (o := .cells #[.int .i64 a0_0, .int .i64 a0_1, .int .i64 a0_2] 49 (0, 0)) (by (with_reducible repeat (first | refine blk_drewN ?_ _ | refine blk_drew ?_ | refine blk_alloc ?_ _)); exact BK306.out) hb); have n1_ := Aside0.mk (blk_below (g := gb307) (o := .cells #[.int .i64 a0_0, .int .i64 a0_1, .int .i64 a0_2] 50 (0, 0)) (by (with_reducible repeat (first | refine blk_drewN ?_ _ | refine blk_drew ?_ | refine blk_alloc ?_ _)); exact BK307.out) hb); have n2_ := Aside0.mk (blk_below (g := gb314) (o := .cells #[.int .i64 t310, .int .i64 t311, .int .i64 t312] 50 (0, 0)) (by (with_reducible repeat (first | refine blk_drewN ?_ _ | refine blk_drew ?_ | refine blk_alloc ?_ _)); exact BK314.out) hb); have n3_ := Aside0.mk (below_step (by repeat (first | (with_reducible first | exact HB.out | apply below_alloc | apply pw_below_drewN | apply below_drew1 | refine below_set ?_ GE306.out | refine below_set ?_ GE307.out | refine below_set ?_ GE314.out) | exact HB.out)) hb); clear BK306; clear BK307; clear BK314; clear HB; have BK306 := n0_; have BK307 := n1_; have BK314 := n2_; have HB := n3_; clear n0_ n1_ n2_ n3_; (try clear hb); (try clear hb2); (try clear hk); (try clear hi)))
            go_meet
            case rel => exact ⟨_, (true), (by first | rfl | (simp; done) | (simp [*]; done)), H', ⟨by first | omega | exact Nat.le_refl _⟩, ⟨by (with_reducible repeat (first | refine blk_drewN ?_ _ | refine blk_drew ?_ | refine blk_alloc ?_ _)); exact BK306.out⟩, ⟨by (with_reducible repeat (first | refine blk_drewN ?_ _ | refine blk_drew ?_ | refine blk_alloc ?_ _)); exact BK307.out⟩, ⟨by (with_reducible repeat (first | refine blk_drewN ?_ _ | refine blk_drew ?_ | refine blk_alloc ?_ _)); exact BK314.out⟩, ⟨by repeat (first | (with_reducible first | exact HB.out | apply below_alloc | apply pw_below_drewN | apply below_drew1 | refine below_set ?_ GE306.out | refine below_set ?_ GE307.out | refine below_set ?_ GE314.out) | exact HB.out)⟩⟩
  case rest =>
    clear HC6
    try clear c1
    try clear c2
    try clear p2
    try clear c3
    try clear q3
    try clear c4
    try clear c5
    try clear c6
    try clear c7
    try clear c8
    try clear c10
    try clear c15
    try clear c16
    try clear c21
    try clear c21b0
    try clear c21b1
    try clear c21b2
    try clear c22
    try clear c23
    try clear c26
    try clear c27
    try clear c30
    try clear c30b0
    try clear c30b1
    try clear c30b2
    try clear c31
    try clear q31
    try clear c32
    try clear q32
    try clear c33
    try clear c34
    try clear c35
    try clear c36
    try clear c36b0
    try clear c36b1
    try clear c37
    try clear c37b0
    try clear c37b1
    try clear c38
    try clear c39
    try clear c43
    try clear c44
    try clear c48
    try clear c49
    try clear c53
    try clear c53b0
    try clear c53b1
    try clear c53b2
    try clear c54
    try clear c55
    try clear c58
    try clear c58b0
    try clear c58b1
    try clear c58b2
    try clear c59
    try clear c60
    try clear c63
    try clear c64
    try clear c68
    try clear c68b0
    try clear c68b1
    try clear c69
    try clear c69b0
    try clear c69b1
    try clear c70
    try clear c71
    try clear c75
    try clear c76
    try clear c80
    try clear c81
    try clear hcz11_0
    try clear hcz11_1
    try clear hcz11_2
    try clear hcz17_0
    try clear hcz17_1
    try clear hcz17_2
    try clear hcz18_0
    try clear hcz18_1
    try clear hcz18_2
    try clear hcz24_0
    try clear hcz24_1
    try clear hcz24_2
    try clear hcz28_0
    try clear hcz28_1
    try clear hcz28_2
    try clear hcz33_0
    try clear hcz33_1
    try clear hcz33_2
    try clear hcz40_0
    try clear hcz40_1
    try clear hcz40_2
    try clear hcz45_0
    try clear hcz45_1
    try clear hcz45_2
    try clear hcz50_0
    try clear hcz50_1
    try clear hcz50_2
    try clear hcz56_0
    try clear hcz56_1
    try clear hcz56_2
    try clear hcz61_0
    try clear hcz61_1
    try clear hcz61_2
    try clear hcz65_0
    try clear hcz65_1
    try clear hcz65_2
    try clear hcz72_0
    try clear hcz72_1
    try clear hcz72_2
    try clear hcz77_0
    try clear hcz77_1
    try clear hcz77_2
    try clear hcz82_0
    try clear hcz82_1
    try clear hcz82_2
    try clear hcz8_0
    try clear hcz8_1
    try clear hcz8_2
    try clear hfz11_0
    try clear hfz11_1
    try clear hfz11_2
    try clear hfz17_0
    try clear hfz17_1
    try clear hfz17_2
    try clear hfz18_0
    try clear hfz18_1
    try clear hfz18_2
    try clear hfz24_0
    try clear hfz24_1
    try clear hfz24_2
    try clear hfz28_0
    try clear hfz28_1
    try clear hfz28_2
    try clear hfz33_0
    try clear hfz33_1
    try clear hfz33_2
    try clear hfz40_0
    try clear hfz40_1
    try clear hfz40_2
    try clear hfz45_0
    try clear hfz45_1
    try clear hfz45_2
    try clear hfz50_0
    try clear hfz50_1
    try clear hfz50_2
    try clear hfz56_0
    try clear hfz56_1
    try clear hfz56_2
    try clear hfz61_0
    try clear hfz61_1
    try clear hfz61_2
    try clear hfz65_0
    try clear hfz65_1
    try clear hfz65_2
    try clear hfz72_0
    try clear hfz72_1
    try clear hfz72_2
    try clear hfz77_0
    try clear hfz77_1
    try clear hfz77_2
    try clear hfz82_0
    try clear hfz82_1
    try clear hfz82_2
    try clear hfz8_0
    try clear hfz8_1
    try clear hfz8_2
    try clear q317
    try clear q318
    try clear q320
    obtain ⟨kq, x58_5, rfl, HA, HJ5, BK306, BK307, BK314, HB⟩ := hcut
    cases kq with
    | zero => exact absurd HA.out (by simp [fuseelaw08_DaytimeSeconds.j0])
    | succ kj5 =>
      have H := HA.out
      clear HA
      simp only [fuseelaw08_DaytimeSeconds.j0] at H
      by_cases c85 : x58_5 = true
      · subst c85
        have H1 : (some false) = some r := by rw [if_pos rfl] at H; exact H
        clear H
        have H := H1
        clear H1
        obtain rfl := Option.some.inj H
        go_wp2
        go_ret
        exact ⟨by first | rfl | (simp [errW_none, errW_some] <;> rfl) | (simp [*, errW_none, errW_some] <;> rfl), by repeat (first | (with_reducible first | exact HB.out | apply below_alloc | apply pw_below_drewN | apply below_drew1 | refine below_set ?_ GE306.out | refine below_set ?_ GE307.out | refine below_set ?_ GE314.out) | exact HB.out)⟩
      · replace c85 := Bool.eq_false_iff.mpr c85
        subst c85
        have H1 : (if a1 < 0 then (fuseelaw08_DaytimeSeconds.j1 kj5 a1 t313 true t310 t311 t312) else (fuseelaw08_DaytimeSeconds.j1 kj5 a1 t313 (decide (a1 > 86400)) t310 t311 t312)) = some r := by rw [if_neg (show ¬ (false = true) by decide)] at H; exact H
        clear H
        have H := H1
        clear H1
        have HC86 := Aside0.mk H
        clear H
        go_upto_region 7 with (fail)
        go_cut [64] (fun v64 wc => ∃ (kq : Nat) (x64_85 : Bool), v64 = .bool x64_85 ∧ Aside0 (fuseelaw08_DaytimeSeconds.j1 kq a1 t313 x64_85 t310 t311 t312 = some r) ∧ Aside0 (kq ≤ kj5) ∧ Aside0 (wc.heap[gb306]? = some (.cells #[.int .i64 a0_0, .int .i64 a0_1, .int .i64 a0_2] 49 (0, 0))) ∧ Aside0 (wc.heap[gb307]? = some (.cells #[.int .i64 a0_0, .int .i64 a0_1, .int .i64 a0_2] 50 (0, 0))) ∧ Aside0 (wc.heap[gb314]? = some (.cells #[.int .i64 t310, .int .i64 t311, .int .i64 t312] 50 (0, 0))) ∧ Aside0 (Below w.heap.size w wc))
        case first =>
          have H := HC86.out
          clear HC86
          by_cases c87 : a1 < 0
          · rw [if_pos c87] at H
            have c87b0 : decide (a1 < 0) = true := decide_eq_true c87
            clear c87
            (first | rw [c87b0] | (simp only [i64_w, i32_w]; rw [c87b0]) | skip)
            have H' := Aside0.mk H
            clear H
            go_wp2
            go_meet
            case rel => exact ⟨_, (true), (by first | rfl | (simp; done) | (simp [*]; done)), H', ⟨by have := HJ5.out; first | omega | exact Nat.le_refl _⟩, ⟨by (with_reducible repeat (first | refine blk_drewN ?_ _ | refine blk_drew ?_ | refine blk_alloc ?_ _)); exact BK306.out⟩, ⟨by (with_reducible repeat (first | refine blk_drewN ?_ _ | refine blk_drew ?_ | refine blk_alloc ?_ _)); exact BK307.out⟩, ⟨by (with_reducible repeat (first | refine blk_drewN ?_ _ | refine blk_drew ?_ | refine blk_alloc ?_ _)); exact BK314.out⟩, ⟨by repeat (first | (with_reducible first | exact HB.out | apply below_alloc | apply pw_below_drewN | apply below_drew1 | refine below_set ?_ GE306.out | refine below_set ?_ GE307.out | refine below_set ?_ GE314.out) | exact HB.out)⟩⟩
          · rw [if_neg c87] at H
            have c87b0 : decide (a1 < 0) = false := decide_eq_false c87
            clear c87
            (first | rw [c87b0] | (simp only [i64_w, i32_w]; rw [c87b0]) | skip)
            have H' := Aside0.mk H
            clear H
            go_wp2
            go_meet
            case rel => exact ⟨_, (decide (a1 > 86400)), (by first | rfl | (simp; done) | (simp [*]; done)), H', ⟨by have := HJ5.out; first | omega | exact Nat.le_refl _⟩, ⟨by (with_reducible repeat (first | refine blk_drewN ?_ _ | refine blk_drew ?_ | refine blk_alloc ?_ _)); exact BK306.out⟩, ⟨by (with_reducible repeat (first | refine blk_drewN ?_ _ | refine blk_drew ?_ | refine blk_alloc ?_ _)); exact BK307.out⟩, ⟨by (with_reducible repeat (first | refine blk_drewN ?_ _ | refine blk_drew ?_ | refine blk_alloc ?_ _)); exact BK314.out⟩, ⟨by repeat (first | (with_reducible first | exact HB.out | apply below_alloc | apply pw_below_drewN | apply below_drew1 | refine below_set ?_ GE306.out | refine below_set ?_ GE307.out | refine below_set ?_ GE314.out) | exact HB.out)⟩⟩
        case rest =>
          clear HC86
          try clear c1
          try clear c2
          try clear p2
          try clear c3
          try clear q3
          try clear c4
          try clear c5
          try clear c6
          try clear c7
          try clear c8
          try clear c10
          try clear c15
          try clear c16
          try clear c21
          try clear c21b0
          try clear c21b1
          try clear c21b2
          try clear c22
          try clear c23
          try clear c26
          try clear c27
          try clear c30
          try clear c30b0
          try clear c30b1
          try clear c30b2
          try clear c31
          try clear q31
          try clear c32
          try clear q32
          try clear c33
          try clear c34
          try clear c35
          try clear c36
          try clear c36b0
          try clear c36b1
          try clear c37
          try clear c37b0
          try clear c37b1
          try clear c38
          try clear c39
          try clear c43
          try clear c44
          try clear c48
          try clear c49
          try clear c53
          try clear c53b0
          try clear c53b1
          try clear c53b2
          try clear c54
          try clear c55
          try clear c58
          try clear c58b0
          try clear c58b1
          try clear c58b2
          try clear c59
          try clear c60
          try clear c63
          try clear c64
          try clear c68
          try clear c68b0
          try clear c68b1
          try clear c69
          try clear c69b0
          try clear c69b1
          try clear c70
          try clear c71
          try clear c75
          try clear c76
          try clear c80
          try clear c81
          try clear c85
          try clear c87
          try clear c87b0
          try clear hcz11_0
          try clear hcz11_1
          try clear hcz11_2
          try clear hcz17_0
          try clear hcz17_1
          try clear hcz17_2
          try clear hcz18_0
          try clear hcz18_1
          try clear hcz18_2
          try clear hcz24_0
          try clear hcz24_1
          try clear hcz24_2
          try clear hcz28_0
          try clear hcz28_1
          try clear hcz28_2
          try clear hcz33_0
          try clear hcz33_1
          try clear hcz33_2
          try clear hcz40_0
          try clear hcz40_1
          try clear hcz40_2
          try clear hcz45_0
          try clear hcz45_1
          try clear hcz45_2
          try clear hcz50_0
          try clear hcz50_1
          try clear hcz50_2
          try clear hcz56_0
          try clear hcz56_1
          try clear hcz56_2
          try clear hcz61_0
          try clear hcz61_1
          try clear hcz61_2
          try clear hcz65_0
          try clear hcz65_1
          try clear hcz65_2
          try clear hcz72_0
          try clear hcz72_1
          try clear hcz72_2
          try clear hcz77_0
          try clear hcz77_1
          try clear hcz77_2
          try clear hcz82_0
          try clear hcz82_1
          try clear hcz82_2
          try clear hcz8_0
          try clear hcz8_1
          try clear hcz8_2
          try clear hfz11_0
          try clear hfz11_1
          try clear hfz11_2
          try clear hfz17_0
          try clear hfz17_1
          try clear hfz17_2
          try clear hfz18_0
          try clear hfz18_1
          try clear hfz18_2
          try clear hfz24_0
          try clear hfz24_1
          try clear hfz24_2
          try clear hfz28_0
          try clear hfz28_1
          try clear hfz28_2
          try clear hfz33_0
          try clear hfz33_1
          try clear hfz33_2
          try clear hfz40_0
          try clear hfz40_1
          try clear hfz40_2
          try clear hfz45_0
          try clear hfz45_1
          try clear hfz45_2
          try clear hfz50_0
          try clear hfz50_1
          try clear hfz50_2
          try clear hfz56_0
          try clear hfz56_1
          try clear hfz56_2
          try clear hfz61_0
          try clear hfz61_1
          try clear hfz61_2
          try clear hfz65_0
          try clear hfz65_1
          try clear hfz65_2
          try clear hfz72_0
          try clear hfz72_1
          try clear hfz72_2
          try clear hfz77_0
          try clear hfz77_1
          try clear hfz77_2
          try clear hfz82_0
          try clear hfz82_1
          try clear hfz82_2
          try clear hfz8_0
          try clear hfz8_1
          try clear hfz8_2
          try clear p2
          try clear q3
          try clear q31
          try clear q317
          try clear q318
          try clear q32
          try clear q320
          obtain ⟨kq, x64_85, rfl, HA, HJ85, BK306, BK307, BK314, HB⟩ := hcut
          cases kq with
          | zero => exact absurd HA.out (by simp [fuseelaw08_DaytimeSeconds.j1])
          | succ kj85 =>
            have H := HA.out
            clear HA
            simp only [fuseelaw08_DaytimeSeconds.j1] at H
            by_cases c88 : x64_85 = true
            · subst c88
              have H1 : ((fuseelaw08_num.f t313).bind fun t322 => (if t322 = 1 then (if (t310 == 0 && (t311 == 0 && (t312 == 0))) = true then ((fuseelaw08_sure.f kj85).bind fun t323 => (some t323)) else (some false)) else (some false))) = some r := by rw [if_pos rfl] at H; exact H
              clear H
              have H := H1
              clear H1
              replace H := Option.bind_eq_some_iff.mp H
              obtain ⟨t322, A890, H⟩ := H
              replace H : (if t322 = 1 then (if (t310 == 0 && (t311 == 0 && (t312 == 0))) = true then ((fuseelaw08_sure.f kj85).bind fun t323 => (some t323)) else (some false)) else (some false)) = some r := H
              have A89 := Aside0.mk A890
              clear A890
              by_cases c90 : t322 = 1
              · rw [if_pos c90] at H
                have c90b0 : (t322 == 1) = true := beq_iff_eq.mpr c90
                have c90b1 : (t322 != 1) = false := bne_eq_false_iff_eq.mpr c90
                clear c90
                by_cases c91 : (t310 == 0 && (t311 == 0 && (t312 == 0))) = true
                · rw [if_pos c91] at H
                  have c91b0 : (t310 == 0 && (t311 == 0 && (t312 == 0))) = true := c91
                  (try (have c91b1 : decide (t310 = 0 && (t311 == 0 && (t312 == 0))) = true := by simpa using c91))
                  (try (have c91b2 : (t310 == 0 && (t311 == 0 && (t312 == 0))) = true := by simpa using c91))
                  clear c91
                  replace H := Option.bind_eq_some_iff.mp H
                  obtain ⟨t323, A920, H⟩ := H
                  replace H : (some t323) = some r := H
                  have A92 := Aside0.mk A920
                  clear A920
                  obtain rfl := Option.some.inj H
                  have CA89 := fun W HL_ => fuseelaw08_num.calls t313 t322 W HL_ A89.out
                  try simp only [errW_none, errW_some] at CA89
                  go_wp2_with (first | (go_at_call 36; (with_reducible refine (CA89 _ (by first | exact Laid.below HL.out (by repeat (first | (with_reducible first | exact HB.out | apply below_alloc | apply pw_below_drewN | apply below_drew1 | refine below_set ?_ (Aside0.out (by assumption))) | exact HB.out)))).mono ?_); rintro e w93 ⟨rfl, hb⟩; have n0_ := Aside0.mk (blk_below (g := gb306) (o := .cells #[.int .i64 a0_0, .int .i64 a0_1, .int .i64 a0_2] 49 (0, 0)) (by (with_reducible repeat (first | refine blk_drewN ?_ _ | refine blk_drew ?_ | refine blk_alloc ?_ _)); exact BK306.out) hb); have n1_ := Aside0.mk (blk_below (g := gb307) (o := .cells #[.int .i64 a0_0, .int .i64 a0_1, .int .i64 a0_2] 50 (0, 0)) (by (with_reducible repeat (first | refine blk_drewN ?_ _ | refine blk_drew ?_ | refine blk_alloc ?_ _)); exact BK307.out) hb); have n2_ := Aside0.mk (blk_below (g := gb314) (o := .cells #[.int .i64 t310, .int .i64 t311, .int .i64 t312] 50 (0, 0)) (by (with_reducible repeat (first | refine blk_drewN ?_ _ | refine blk_drew ?_ | refine blk_alloc ?_ _)); exact BK314.out) hb); have n3_ := Aside0.mk (below_step (by repeat (first | (with_reducible first | exact HB.out | apply below_alloc | apply pw_below_drewN | apply below_drew1 | refine below_set ?_ GE306.out | refine below_set ?_ GE307.out | refine below_set ?_ GE314.out) | exact HB.out)) hb); clear BK306; clear BK307; clear BK314; clear HB; have BK306 := n0_; have BK307 := n1_; have BK314 := n2_; have HB := n3_; clear n0_ n1_ n2_ n3_; (try clear hb); (try clear hb2); (try clear hk); (try clear hi); have hnb94 := NB314_306.out; have hnc94 := NB306_314.out; have hnb95 := NB314_307.out; have hnc95 := NB307_314.out; have hcz96_0 : w93.cell? ⟨gb314, 0, none⟩ = some (.int .i64 t310) := (blk_cell BK314.out 0).trans rfl; have hcz96_1 : w93.cell? ⟨gb314, 1, none⟩ = some (.int .i64 t311) := (blk_cell BK314.out 1).trans rfl; have hcz96_2 : w93.cell? ⟨gb314, 2, none⟩ = some (.int .i64 t312) := (blk_cell BK314.out 2).trans rfl; have hfz96_0 := blk_frozen BK314.out 0; have hfz96_1 := blk_frozen BK314.out 1; have hfz96_2 := blk_frozen BK314.out 2) | (go_at_call 37; (with_reducible refine (fuseelaw08_sure.calls kj85  t323 _ (by first | exact Laid.below HL.out (by repeat (first | (with_reducible first | exact HB.out | apply below_alloc | apply pw_below_drewN | apply below_drew1 | refine below_set ?_ (Aside0.out (by assumption))) | exact HB.out))) A92.out).mono ?_); rintro e w97 ⟨rfl, hb⟩; have n0_ := Aside0.mk (blk_below (g := gb306) (o := .cells #[.int .i64 a0_0, .int .i64 a0_1, .int .i64 a0_2] 49 (0, 0)) (by (with_reducible repeat (first | refine blk_drewN ?_ _ | refine blk_drew ?_ | refine blk_alloc ?_ _)); exact BK306.out) hb); have n1_ := Aside0.mk (blk_below (g := gb307) (o := .cells #[.int .i64 a0_0, .int .i64 a0_1, .int .i64 a0_2] 50 (0, 0)) (by (with_reducible repeat (first | refine blk_drewN ?_ _ | refine blk_drew ?_ | refine blk_alloc ?_ _)); exact BK307.out) hb); have n2_ := Aside0.mk (blk_below (g := gb314) (o := .cells #[.int .i64 t310, .int .i64 t311, .int .i64 t312] 50 (0, 0)) (by (with_reducible repeat (first | refine blk_drewN ?_ _ | refine blk_drew ?_ | refine blk_alloc ?_ _)); exact BK314.out) hb); have n3_ := Aside0.mk (below_step (by repeat (first | (with_reducible first | exact HB.out | apply below_alloc | apply pw_below_drewN | apply below_drew1 | refine below_set ?_ GE306.out | refine below_set ?_ GE307.out | refine below_set ?_ GE314.out) | exact HB.out)) hb); clear BK306; clear BK307; clear BK314; clear HB; have BK306 := n0_; have BK307 := n1_; have BK314 := n2_; have HB := n3_; clear n0_ n1_ n2_ n3_; (try clear hb); (try clear hb2); (try clear hk); (try clear hi)))
                  go_ret
                  exact ⟨by first | rfl | (simp [errW_none, errW_some] <;> rfl) | (simp [*, errW_none, errW_some] <;> rfl), by repeat (first | (with_reducible first | exact HB.out | apply below_alloc | apply pw_below_drewN | apply below_drew1 | refine below_set ?_ GE306.out | refine below_set ?_ GE307.out | refine below_set ?_ GE314.out) | exact HB.out)⟩
                · rw [if_neg c91] at H
                  have c91b0 : (t310 == 0 && (t311 == 0 && (t312 == 0))) = false := by simpa using c91
                  (try (have c91b1 : decide (t310 = 0 && (t311 == 0 && (t312 == 0))) = false := by simpa using c91))
                  (try (have c91b2 : (t310 == 0 && (t311 == 0 && (t312 == 0))) = false := by simpa using c91))
                  (try (have c91b3 : ¬ (t310 = 0 && (t311 == 0 && (t312 == 0))) := by simpa using c91))
                  clear c91
                  obtain rfl := Option.some.inj H
                  have CA89 := fun W HL_ => fuseelaw08_num.calls t313 t322 W HL_ A89.out
                  try simp only [errW_none, errW_some] at CA89
                  go_wp2_with (first | (go_at_call 36; (with_reducible refine (CA89 _ (by first | exact Laid.below HL.out (by repeat (first | (with_reducible first | exact HB.out | apply below_alloc | apply pw_below_drewN | apply below_drew1 | refine below_set ?_ (Aside0.out (by assumption))) | exact HB.out)))).mono ?_); rintro e w98 ⟨rfl, hb⟩; have n0_ := Aside0.mk (blk_below (g := gb306) (o := .cells #[.int .i64 a0_0, .int .i64 a0_1, .int .i64 a0_2] 49 (0, 0)) (by (with_reducible repeat (first | refine blk_drewN ?_ _ | refine blk_drew ?_ | refine blk_alloc ?_ _)); exact BK306.out) hb); have n1_ := Aside0.mk (blk_below (g := gb307) (o := .cells #[.int .i64 a0_0, .int .i64 a0_1, .int .i64 a0_2] 50 (0, 0)) (by (with_reducible repeat (first | refine blk_drewN ?_ _ | refine blk_drew ?_ | refine blk_alloc ?_ _)); exact BK307.out) hb); have n2_ := Aside0.mk (blk_below (g := gb314) (o := .cells #[.int .i64 t310, .int .i64 t311, .int .i64 t312] 50 (0, 0)) (by (with_reducible repeat (first | refine blk_drewN ?_ _ | refine blk_drew ?_ | refine blk_alloc ?_ _)); exact BK314.out) hb); have n3_ := Aside0.mk (below_step (by repeat (first | (with_reducible first | exact HB.out | apply below_alloc | apply pw_below_drewN | apply below_drew1 | refine below_set ?_ GE306.out | refine below_set ?_ GE307.out | refine below_set ?_ GE314.out) | exact HB.out)) hb); clear BK306; clear BK307; clear BK314; clear HB; have BK306 := n0_; have BK307 := n1_; have BK314 := n2_; have HB := n3_; clear n0_ n1_ n2_ n3_; (try clear hb); (try clear hb2); (try clear hk); (try clear hi); have hnb99 := NB314_306.out; have hnc99 := NB306_314.out; have hnb100 := NB314_307.out; have hnc100 := NB307_314.out; have hcz101_0 : w98.cell? ⟨gb314, 0, none⟩ = some (.int .i64 t310) := (blk_cell BK314.out 0).trans rfl; have hcz101_1 : w98.cell? ⟨gb314, 1, none⟩ = some (.int .i64 t311) := (blk_cell BK314.out 1).trans rfl; have hcz101_2 : w98.cell? ⟨gb314, 2, none⟩ = some (.int .i64 t312) := (blk_cell BK314.out 2).trans rfl; have hfz101_0 := blk_frozen BK314.out 0; have hfz101_1 := blk_frozen BK314.out 1; have hfz101_2 := blk_frozen BK314.out 2))
                  go_ret
                  exact ⟨by first | rfl | (simp [errW_none, errW_some] <;> rfl) | (simp [*, errW_none, errW_some] <;> rfl), by repeat (first | (with_reducible first | exact HB.out | apply below_alloc | apply pw_below_drewN | apply below_drew1 | refine below_set ?_ GE306.out | refine below_set ?_ GE307.out | refine below_set ?_ GE314.out) | exact HB.out)⟩
              · rw [if_neg c90] at H
                have c90b0 : (t322 == 1) = false := beq_eq_false_iff_ne.mpr c90
                have c90b1 : (t322 != 1) = true := bne_iff_ne.mpr c90
                obtain rfl := Option.some.inj H
                have CA89 := fun W HL_ => fuseelaw08_num.calls t313 t322 W HL_ A89.out
                try simp only [errW_none, errW_some] at CA89
                go_wp2_with (first | (go_at_call 36; (with_reducible refine (CA89 _ (by first | exact Laid.below HL.out (by repeat (first | (with_reducible first | exact HB.out | apply below_alloc | apply pw_below_drewN | apply below_drew1 | refine below_set ?_ (Aside0.out (by assumption))) | exact HB.out)))).mono ?_); rintro e w102 ⟨rfl, hb⟩; have n0_ := Aside0.mk (blk_below (g := gb306) (o := .cells #[.int .i64 a0_0, .int .i64 a0_1, .int .i64 a0_2] 49 (0, 0)) (by (with_reducible repeat (first | refine blk_drewN ?_ _ | refine blk_drew ?_ | refine blk_alloc ?_ _)); exact BK306.out) hb); have n1_ := Aside0.mk (blk_below (g := gb307) (o := .cells #[.int .i64 a0_0, .int .i64 a0_1, .int .i64 a0_2] 50 (0, 0)) (by (with_reducible repeat (first | refine blk_drewN ?_ _ | refine blk_drew ?_ | refine blk_alloc ?_ _)); exact BK307.out) hb); have n2_ := Aside0.mk (blk_below (g := gb314) (o := .cells #[.int .i64 t310, .int .i64 t311, .int .i64 t312] 50 (0, 0)) (by (with_reducible repeat (first | refine blk_drewN ?_ _ | refine blk_drew ?_ | refine blk_alloc ?_ _)); exact BK314.out) hb); have n3_ := Aside0.mk (below_step (by repeat (first | (with_reducible first | exact HB.out | apply below_alloc | apply pw_below_drewN | apply below_drew1 | refine below_set ?_ GE306.out | refine below_set ?_ GE307.out | refine below_set ?_ GE314.out) | exact HB.out)) hb); clear BK306; clear BK307; clear BK314; clear HB; have BK306 := n0_; have BK307 := n1_; have BK314 := n2_; have HB := n3_; clear n0_ n1_ n2_ n3_; (try clear hb); (try clear hb2); (try clear hk); (try clear hi)))
                go_ret
                exact ⟨by first | rfl | (simp [errW_none, errW_some] <;> rfl) | (simp [*, errW_none, errW_some] <;> rfl), by repeat (first | (with_reducible first | exact HB.out | apply below_alloc | apply pw_below_drewN | apply below_drew1 | refine below_set ?_ GE306.out | refine below_set ?_ GE307.out | refine below_set ?_ GE314.out) | exact HB.out)⟩
            · replace c88 := Bool.eq_false_iff.mpr c88
              subst c88
              have H1 : (if t313.isNone = true then ((fuseeref08_Of.f a1).bind fun bt325 => (if (t310 == bt325.1 && (t311 == bt325.2.1 && (t312 == bt325.2.2))) = true then ((fuseelaw08_sure.f kj85).bind fun t328 => (some t328)) else (some false))) else (some false)) = some r := by rw [if_neg (show ¬ (false = true) by decide)] at H; exact H
              clear H
              have H := H1
              clear H1
              rcases t313 with _ | q324
              · have H1 : ((fuseeref08_Of.f a1).bind fun bt325 => (if (t310 == bt325.1 && (t311 == bt325.2.1 && (t312 == bt325.2.2))) = true then ((fuseelaw08_sure.f kj85).bind fun t328 => (some t328)) else (some false))) = some r := by rw [if_pos (show (none : Option Int).isNone = true by rfl)] at H; exact H
                clear H
                have H := H1
                clear H1
                try simp only [errW_none, errW_some]
                replace H := Option.bind_eq_some_iff.mp H
                obtain ⟨⟨t325, t326, t327⟩, A1030, H⟩ := H
                replace H : (if (t310 == t325 && (t311 == t326 && (t312 == t327))) = true then ((fuseelaw08_sure.f kj85).bind fun t328 => (some t328)) else (some false)) = some r := H
                have A103 := Aside0.mk A1030
                clear A1030
                by_cases c104 : (t310 == t325 && (t311 == t326 && (t312 == t327))) = true
                · rw [if_pos c104] at H
                  have c104b0 : (t310 == t325 && (t311 == t326 && (t312 == t327))) = true := c104
                  (try (have c104b1 : decide (t310 = t325 && (t311 == t326 && (t312 == t327))) = true := by simpa using c104))
                  (try (have c104b2 : (t310 == t325 && (t311 == t326 && (t312 == t327))) = true := by simpa using c104))
                  clear c104
                  replace H := Option.bind_eq_some_iff.mp H
                  obtain ⟨t328, A1050, H⟩ := H
                  replace H : (some t328) = some r := H
                  have A105 := Aside0.mk A1050
                  clear A1050
                  obtain rfl := Option.some.inj H
                  try go_wp2
                  have n0_ := Aside0.mk (blk_drew BK306.out)
                  have n1_ := Aside0.mk (blk_drew BK307.out)
                  have n2_ := Aside0.mk (blk_drew BK314.out)
                  have n3_ := Aside0.mk (below_drew1 HB.out)
                  clear BK306
                  clear BK307
                  clear BK314
                  clear HB
                  have BK306 := n0_
                  have BK307 := n1_
                  have BK314 := n2_
                  have HB := n3_
                  clear n0_ n1_ n2_ n3_
                  refine start_ (n := 12) (S := fun w' => w'.cell? ⟨gb314, 0, none⟩ = some (.int .i64 t310) ∧ w'.cell? ⟨gb314, 1, none⟩ = some (.int .i64 t311) ∧ w'.cell? ⟨gb314, 2, none⟩ = some (.int .i64 t312)) (ds := []) #[false, false, false, false, false, false, false, false, false, false, false, false] (by kernel_rfl) rfl rfl ⟨(blk_cell BK314.out 0).trans rfl, (blk_cell BK314.out 1).trans rfl, (blk_cell BK314.out 2).trans rfl⟩ (fun hHeld => ?_); refine with_tabW fuseelaw08_DaytimeSeconds.tab9 fuseelaw08_DaytimeSeconds.bits9 (fun HT_ HW_ => ?_)
                  generalize wc.drew = w106 at BK306 BK307 BK314 HB hHeld ⊢
                  refine pure_ (i := 0) (N := some 76) (v := ?_) (a' := ?_) #[true, false, false, false, false, false, false, false, false, false, false, false] rfl rfl (any_of HT_.out (by kernel_rfl)) (fun _ _ _ h => h) (Or.inl ⟨by rfl, ?_⟩) ?_ ?_
                  rotate_left
                  · intro w'
                    go_simp
                    with_reducible rfl
                  rotate_left
                  · simp only [Act.put, List.setIfInBounds_toArray, List.set_cons_zero, List.set_cons_succ, i64_w, i32_w]
                    rfl
                  refine pure_ (i := 1) (N := some 77) (v := ?_) (a' := ?_) #[true, true, false, false, false, false, false, false, false, false, false, false] rfl rfl (any_of HT_.out (by kernel_rfl)) (fun _ _ _ h => h) (Or.inl ⟨by rfl, ?_⟩) ?_ ?_
                  rotate_left
                  · intro w'
                    go_simp
                    with_reducible rfl
                  rotate_left
                  · simp only [Act.put, List.setIfInBounds_toArray, List.set_cons_zero, List.set_cons_succ, i64_w, i32_w]
                    rfl
                  refine pure_ (i := 2) (N := some 78) (v := ?_) (a' := ?_) #[true, true, true, false, false, false, false, false, false, false, false, false] rfl rfl (any_of HT_.out (by kernel_rfl)) (fun _ _ _ h => h) (Or.inl ⟨by rfl, ?_⟩) ?_ ?_
                  rotate_left
                  · intro w'
                    go_simp
                    with_reducible rfl
                  rotate_left
                  · simp only [Act.put, List.setIfInBounds_toArray, List.set_cons_zero, List.set_cons_succ, i64_w, i32_w]
                    rfl
                  refine pure_ (i := 4) (N := some 80) (v := ?_) (a' := ?_) #[true, true, true, false, true, false, false, false, false, false, false, false] rfl rfl (any_of HT_.out (by kernel_rfl)) (fun _ _ _ h => h) (Or.inl ⟨by rfl, ?_⟩) ?_ ?_
                  rotate_left
                  · intro w'
                    go_simp
                    with_reducible rfl
                  rotate_left
                  · simp only [Act.put, List.setIfInBounds_toArray, List.set_cons_zero, List.set_cons_succ, i64_w, i32_w]
                    rfl
                  refine take_ (i := 3) (N := some 79) (v := ?_) (a' := ?_) #[true, true, true, true, true, false, false, false, false, false, false, false] rfl rfl (take_ofW HT_.out HW_.out (by kernel_rfl)) (fun _ _ _ h => h) (Or.inl ⟨by rfl, ?_⟩) hHeld ?_ ?_
                  rotate_left
                  · rintro w' ⟨s0, s1, s2⟩
                    go_simp
                    with_reducible rfl
                  rotate_left
                  · simp only [Act.put, List.setIfInBounds_toArray, List.set_cons_zero, List.set_cons_succ, i64_w, i32_w]
                    rfl
                  refine one_ (i := 5) (N := some 81) #[true, true, true, true, true, true, false, false, false, false, false, false] rfl rfl (one_of HT_.out (by kernel_rfl)) (by decide) (fun K hK => ?_)
                  refine goes_ Tryz.func38 (by kernel_rfl) rfl #[.int .i64 a1] (by rfl) rfl rfl (by (try simp only [List.map_toArray, List.map_cons, List.map_nil]); first | done | rfl | (simp only [List.length_drop, List.length_take]; rfl)) ?_
                  with_reducible refine (fuseeref08_Of.calls a1 t325 t326 t327 _ A103.out).mono ?_
                  rintro e w107 ⟨rfl, hb⟩
                  refine ⟨_, rfl, ?_⟩
                  have n0_ := Aside0.mk (blk_below (g := gb306) (o := .cells #[.int .i64 a0_0, .int .i64 a0_1, .int .i64 a0_2] 49 (0, 0)) (by (with_reducible repeat (first | refine blk_drewN ?_ _ | refine blk_drew ?_ | refine blk_alloc ?_ _)); exact BK306.out) hb)
                  have n1_ := Aside0.mk (blk_below (g := gb307) (o := .cells #[.int .i64 a0_0, .int .i64 a0_1, .int .i64 a0_2] 50 (0, 0)) (by (with_reducible repeat (first | refine blk_drewN ?_ _ | refine blk_drew ?_ | refine blk_alloc ?_ _)); exact BK307.out) hb)
                  have n2_ := Aside0.mk (blk_below (g := gb314) (o := .cells #[.int .i64 t310, .int .i64 t311, .int .i64 t312] 50 (0, 0)) (by (with_reducible repeat (first | refine blk_drewN ?_ _ | refine blk_drew ?_ | refine blk_alloc ?_ _)); exact BK314.out) hb)
                  have n3_ := Aside0.mk (below_step (by repeat (first | (with_reducible first | exact HB.out | apply below_alloc | apply pw_below_drewN | apply below_drew1 | refine below_set ?_ GE306.out | refine below_set ?_ GE307.out | refine below_set ?_ GE314.out) | exact HB.out)) hb)
                  clear BK306
                  clear BK307
                  clear BK314
                  clear HB
                  have BK306 := n0_
                  have BK307 := n1_
                  have BK314 := n2_
                  have HB := n3_
                  clear n0_ n1_ n2_ n3_
                  (try clear hb)
                  (try clear hb2)
                  (try clear hk)
                  (try clear hi)
                  refine hK.out _ _ ⟨(blk_cell BK314.out 0).trans rfl, (blk_cell BK314.out 1).trans rfl, (blk_cell BK314.out 2).trans rfl⟩ (fun hHeld => ?_)
                  clear hK K
                  refine norm_ (a' := ?_) ?_ ?_
                  rotate_left
                  · show Act.put _ (some 81) _ = _
                    simp only [Act.put, List.setIfInBounds_toArray, List.set_cons_zero, List.set_cons_succ, i64_w, i32_w]
                    rfl
                  refine pure_ (i := 6) (N := some 82) (v := ?_) (a' := ?_) #[true, true, true, true, true, true, true, false, false, false, false, false] rfl rfl (any_of HT_.out (by kernel_rfl)) (fun _ _ _ h => h) (Or.inl ⟨by rfl, ?_⟩) ?_ ?_
                  rotate_left
                  · intro w'
                    go_simp
                    with_reducible rfl
                  rotate_left
                  · simp only [Act.put, List.setIfInBounds_toArray, List.set_cons_zero, List.set_cons_succ, i64_w, i32_w]
                    rfl
                  refine pure_ (i := 7) (N := some 83) (v := ?_) (a' := ?_) #[true, true, true, true, true, true, true, true, false, false, false, false] rfl rfl (any_of HT_.out (by kernel_rfl)) (fun _ _ _ h => h) (Or.inl ⟨by rfl, ?_⟩) ?_ ?_
                  rotate_left
                  · intro w'
                    go_simp
                    with_reducible rfl
                  rotate_left
                  · simp only [Act.put, List.setIfInBounds_toArray, List.set_cons_zero, List.set_cons_succ, i64_w, i32_w]
                    rfl
                  refine pure_ (i := 8) (N := some 84) (v := ?_) (a' := ?_) #[true, true, true, true, true, true, true, true, true, false, false, false] rfl rfl (any_of HT_.out (by kernel_rfl)) (fun _ _ _ h => h) (Or.inl ⟨by rfl, ?_⟩) ?_ ?_
                  rotate_left
                  · intro w'
                    go_simp
                    with_reducible rfl
                  rotate_left
                  · simp only [Act.put, List.setIfInBounds_toArray, List.set_cons_zero, List.set_cons_succ, i64_w, i32_w]
                    rfl
                  refine one_ (i := 9) (N := some 85) #[true, true, true, true, true, true, true, true, true, true, false, false] rfl rfl (one_of HT_.out (by kernel_rfl)) (by decide) (fun K hK => ?_)
                  refine goes_ Tryz.func37 (by kernel_rfl) rfl #[] (by rfl) rfl rfl (by (try simp only [List.map_toArray, List.map_cons, List.map_nil]); first | done | rfl | (simp only [List.length_drop, List.length_take]; rfl)) ?_
                  with_reducible refine (fuseelaw08_sure.calls kj85  t328 _ (by first | exact Laid.below HL.out (by repeat (first | (with_reducible first | exact HB.out | apply below_alloc | apply pw_below_drewN | apply below_drew1 | refine below_set ?_ (Aside0.out (by assumption))) | exact HB.out))) A105.out).mono ?_
                  rintro e w108 ⟨rfl, hb⟩
                  refine ⟨_, rfl, ?_⟩
                  have n0_ := Aside0.mk (blk_below (g := gb306) (o := .cells #[.int .i64 a0_0, .int .i64 a0_1, .int .i64 a0_2] 49 (0, 0)) (by (with_reducible repeat (first | refine blk_drewN ?_ _ | refine blk_drew ?_ | refine blk_alloc ?_ _)); exact BK306.out) hb)
                  have n1_ := Aside0.mk (blk_below (g := gb307) (o := .cells #[.int .i64 a0_0, .int .i64 a0_1, .int .i64 a0_2] 50 (0, 0)) (by (with_reducible repeat (first | refine blk_drewN ?_ _ | refine blk_drew ?_ | refine blk_alloc ?_ _)); exact BK307.out) hb)
                  have n2_ := Aside0.mk (blk_below (g := gb314) (o := .cells #[.int .i64 t310, .int .i64 t311, .int .i64 t312] 50 (0, 0)) (by (with_reducible repeat (first | refine blk_drewN ?_ _ | refine blk_drew ?_ | refine blk_alloc ?_ _)); exact BK314.out) hb)
                  have n3_ := Aside0.mk (below_step (by repeat (first | (with_reducible first | exact HB.out | apply below_alloc | apply pw_below_drewN | apply below_drew1 | refine below_set ?_ GE306.out | refine below_set ?_ GE307.out | refine below_set ?_ GE314.out) | exact HB.out)) hb)
                  clear BK306
                  clear BK307
                  clear BK314
                  clear HB
                  have BK306 := n0_
                  have BK307 := n1_
                  have BK314 := n2_
                  have HB := n3_
                  clear n0_ n1_ n2_ n3_
                  (try clear hb)
                  (try clear hb2)
                  (try clear hk)
                  (try clear hi)
                  refine hK.out _ _ ⟨(blk_cell BK314.out 0).trans rfl, (blk_cell BK314.out 1).trans rfl, (blk_cell BK314.out 2).trans rfl⟩ (fun hHeld => ?_)
                  clear hK K
                  refine norm_ (a' := ?_) ?_ ?_
                  rotate_left
                  · show Act.put _ (some 85) _ = _
                    simp only [Act.put, List.setIfInBounds_toArray, List.set_cons_zero, List.set_cons_succ, i64_w, i32_w]
                    rfl
                  refine pure_ (i := 10) (N := some 86) (v := ?_) (a' := ?_) #[true, true, true, true, true, true, true, true, true, true, true, false] rfl rfl (any_of HT_.out (by kernel_rfl)) (fun _ _ _ h => h) (Or.inl ⟨by rfl, ?_⟩) ?_ ?_
                  rotate_left
                  · intro w'
                    go_simp
                    with_reducible rfl
                  rotate_left
                  · simp only [Act.put, List.setIfInBounds_toArray, List.set_cons_zero, List.set_cons_succ, i64_w, i32_w]
                    rfl
                  refine pure_ (i := 11) (N := some 4) (v := ?_) (a' := ?_) #[true, true, true, true, true, true, true, true, true, true, true, true] rfl rfl (any_of HT_.out (by kernel_rfl)) (fun _ _ _ h => h) (Or.inl ⟨by rfl, ?_⟩) ?_ ?_
                  rotate_left
                  · intro w'
                    go_simp
                    with_reducible rfl
                  rotate_left
                  · simp only [Act.put, List.setIfInBounds_toArray, List.set_cons_zero, List.set_cons_succ, i64_w, i32_w]
                    rfl
                  refine done_ (done_of HT_.out (by kernel_rfl)) ?_
                  try go_wp2
                  go_ret
                  exact ⟨by first | rfl | (simp [errW_none, errW_some] <;> rfl) | (simp [*, errW_none, errW_some] <;> rfl), by repeat (first | (with_reducible first | exact HB.out | apply below_alloc | apply pw_below_drewN | apply below_drew1 | refine below_set ?_ GE306.out | refine below_set ?_ GE307.out | refine below_set ?_ GE314.out) | exact HB.out)⟩
                · rw [if_neg c104] at H
                  have c104b0 : (t310 == t325 && (t311 == t326 && (t312 == t327))) = false := by simpa using c104
                  (try (have c104b1 : decide (t310 = t325 && (t311 == t326 && (t312 == t327))) = false := by simpa using c104))
                  (try (have c104b2 : (t310 == t325 && (t311 == t326 && (t312 == t327))) = false := by simpa using c104))
                  (try (have c104b3 : ¬ (t310 = t325 && (t311 == t326 && (t312 == t327))) := by simpa using c104))
                  clear c104
                  obtain rfl := Option.some.inj H
                  try go_wp2
                  have n0_ := Aside0.mk (blk_drew BK306.out)
                  have n1_ := Aside0.mk (blk_drew BK307.out)
                  have n2_ := Aside0.mk (blk_drew BK314.out)
                  have n3_ := Aside0.mk (below_drew1 HB.out)
                  clear BK306
                  clear BK307
                  clear BK314
                  clear HB
                  have BK306 := n0_
                  have BK307 := n1_
                  have BK314 := n2_
                  have HB := n3_
                  clear n0_ n1_ n2_ n3_
                  refine start_ (n := 12) (S := fun w' => w'.cell? ⟨gb314, 0, none⟩ = some (.int .i64 t310) ∧ w'.cell? ⟨gb314, 1, none⟩ = some (.int .i64 t311) ∧ w'.cell? ⟨gb314, 2, none⟩ = some (.int .i64 t312)) (ds := []) #[false, false, false, false, false, false, false, false, false, false, false, false] (by kernel_rfl) rfl rfl ⟨(blk_cell BK314.out 0).trans rfl, (blk_cell BK314.out 1).trans rfl, (blk_cell BK314.out 2).trans rfl⟩ (fun hHeld => ?_); refine with_tabW fuseelaw08_DaytimeSeconds.tab9 fuseelaw08_DaytimeSeconds.bits9 (fun HT_ HW_ => ?_)
                  generalize wc.drew = w109 at BK306 BK307 BK314 HB hHeld ⊢
                  refine pure_ (i := 0) (N := some 76) (v := ?_) (a' := ?_) #[true, false, false, false, false, false, false, false, false, false, false, false] rfl rfl (any_of HT_.out (by kernel_rfl)) (fun _ _ _ h => h) (Or.inl ⟨by rfl, ?_⟩) ?_ ?_
                  rotate_left
                  · intro w'
                    go_simp
                    with_reducible rfl
                  rotate_left
                  · simp only [Act.put, List.setIfInBounds_toArray, List.set_cons_zero, List.set_cons_succ, i64_w, i32_w]
                    rfl
                  refine pure_ (i := 1) (N := some 77) (v := ?_) (a' := ?_) #[true, true, false, false, false, false, false, false, false, false, false, false] rfl rfl (any_of HT_.out (by kernel_rfl)) (fun _ _ _ h => h) (Or.inl ⟨by rfl, ?_⟩) ?_ ?_
                  rotate_left
                  · intro w'
                    go_simp
                    with_reducible rfl
                  rotate_left
                  · simp only [Act.put, List.setIfInBounds_toArray, List.set_cons_zero, List.set_cons_succ, i64_w, i32_w]
                    rfl
                  refine pure_ (i := 2) (N := some 78) (v := ?_) (a' := ?_) #[true, true, true, false, false, false, false, false, false, false, false, false] rfl rfl (any_of HT_.out (by kernel_rfl)) (fun _ _ _ h => h) (Or.inl ⟨by rfl, ?_⟩) ?_ ?_
                  rotate_left
                  · intro w'
                    go_simp
                    with_reducible rfl
                  rotate_left
                  · simp only [Act.put, List.setIfInBounds_toArray, List.set_cons_zero, List.set_cons_succ, i64_w, i32_w]
                    rfl
                  refine pure_ (i := 4) (N := some 80) (v := ?_) (a' := ?_) #[true, true, true, false, true, false, false, false, false, false, false, false] rfl rfl (any_of HT_.out (by kernel_rfl)) (fun _ _ _ h => h) (Or.inl ⟨by rfl, ?_⟩) ?_ ?_
                  rotate_left
                  · intro w'
                    go_simp
                    with_reducible rfl
                  rotate_left
                  · simp only [Act.put, List.setIfInBounds_toArray, List.set_cons_zero, List.set_cons_succ, i64_w, i32_w]
                    rfl
                  refine take_ (i := 3) (N := some 79) (v := ?_) (a' := ?_) #[true, true, true, true, true, false, false, false, false, false, false, false] rfl rfl (take_ofW HT_.out HW_.out (by kernel_rfl)) (fun _ _ _ h => h) (Or.inl ⟨by rfl, ?_⟩) hHeld ?_ ?_
                  rotate_left
                  · rintro w' ⟨s0, s1, s2⟩
                    go_simp
                    with_reducible rfl
                  rotate_left
                  · simp only [Act.put, List.setIfInBounds_toArray, List.set_cons_zero, List.set_cons_succ, i64_w, i32_w]
                    rfl
                  refine one_ (i := 5) (N := some 81) #[true, true, true, true, true, true, false, false, false, false, false, false] rfl rfl (one_of HT_.out (by kernel_rfl)) (by decide) (fun K hK => ?_)
                  refine goes_ Tryz.func38 (by kernel_rfl) rfl #[.int .i64 a1] (by rfl) rfl rfl (by (try simp only [List.map_toArray, List.map_cons, List.map_nil]); first | done | rfl | (simp only [List.length_drop, List.length_take]; rfl)) ?_
                  with_reducible refine (fuseeref08_Of.calls a1 t325 t326 t327 _ A103.out).mono ?_
                  rintro e w110 ⟨rfl, hb⟩
                  refine ⟨_, rfl, ?_⟩
                  have n0_ := Aside0.mk (blk_below (g := gb306) (o := .cells #[.int .i64 a0_0, .int .i64 a0_1, .int .i64 a0_2] 49 (0, 0)) (by (with_reducible repeat (first | refine blk_drewN ?_ _ | refine blk_drew ?_ | refine blk_alloc ?_ _)); exact BK306.out) hb)
                  have n1_ := Aside0.mk (blk_below (g := gb307) (o := .cells #[.int .i64 a0_0, .int .i64 a0_1, .int .i64 a0_2] 50 (0, 0)) (by (with_reducible repeat (first | refine blk_drewN ?_ _ | refine blk_drew ?_ | refine blk_alloc ?_ _)); exact BK307.out) hb)
                  have n2_ := Aside0.mk (blk_below (g := gb314) (o := .cells #[.int .i64 t310, .int .i64 t311, .int .i64 t312] 50 (0, 0)) (by (with_reducible repeat (first | refine blk_drewN ?_ _ | refine blk_drew ?_ | refine blk_alloc ?_ _)); exact BK314.out) hb)
                  have n3_ := Aside0.mk (below_step (by repeat (first | (with_reducible first | exact HB.out | apply below_alloc | apply pw_below_drewN | apply below_drew1 | refine below_set ?_ GE306.out | refine below_set ?_ GE307.out | refine below_set ?_ GE314.out) | exact HB.out)) hb)
                  clear BK306
                  clear BK307
                  clear BK314
                  clear HB
                  have BK306 := n0_
                  have BK307 := n1_
                  have BK314 := n2_
                  have HB := n3_
                  clear n0_ n1_ n2_ n3_
                  (try clear hb)
                  (try clear hb2)
                  (try clear hk)
                  (try clear hi)
                  refine hK.out _ _ ⟨(blk_cell BK314.out 0).trans rfl, (blk_cell BK314.out 1).trans rfl, (blk_cell BK314.out 2).trans rfl⟩ (fun hHeld => ?_)
                  clear hK K
                  refine norm_ (a' := ?_) ?_ ?_
                  rotate_left
                  · show Act.put _ (some 81) _ = _
                    simp only [Act.put, List.setIfInBounds_toArray, List.set_cons_zero, List.set_cons_succ, i64_w, i32_w]
                    rfl
                  refine pure_ (i := 6) (N := some 82) (v := ?_) (a' := ?_) #[true, true, true, true, true, true, true, false, false, false, false, false] rfl rfl (any_of HT_.out (by kernel_rfl)) (fun _ _ _ h => h) (Or.inl ⟨by rfl, ?_⟩) ?_ ?_
                  rotate_left
                  · intro w'
                    go_simp
                    with_reducible rfl
                  rotate_left
                  · simp only [Act.put, List.setIfInBounds_toArray, List.set_cons_zero, List.set_cons_succ, i64_w, i32_w]
                    rfl
                  refine pure_ (i := 7) (N := some 83) (v := ?_) (a' := ?_) #[true, true, true, true, true, true, true, true, false, false, false, false] rfl rfl (any_of HT_.out (by kernel_rfl)) (fun _ _ _ h => h) (Or.inl ⟨by rfl, ?_⟩) ?_ ?_
                  rotate_left
                  · intro w'
                    go_simp
                    with_reducible rfl
                  rotate_left
                  · simp only [Act.put, List.setIfInBounds_toArray, List.set_cons_zero, List.set_cons_succ, i64_w, i32_w]
                    rfl
                  refine pure_ (i := 8) (N := some 84) (v := ?_) (a' := ?_) #[true, true, true, true, true, true, true, true, true, false, false, false] rfl rfl (any_of HT_.out (by kernel_rfl)) (fun _ _ _ h => h) (Or.inl ⟨by rfl, ?_⟩) ?_ ?_
                  rotate_left
                  · intro w'
                    go_simp
                    with_reducible rfl
                  rotate_left
                  · simp only [Act.put, List.setIfInBounds_toArray, List.set_cons_zero, List.set_cons_succ, i64_w, i32_w]
                    rfl
                  refine pure_ (i := 9) (N := some 85) (v := undef) (a' := ?_) #[true, true, true, true, true, true, true, true, true, true, false, false] rfl rfl (any_of HT_.out (by kernel_rfl)) (fun _ _ _ h => h) (Or.inr ⟨by rfl, rfl⟩) ?_ ?_
                  rotate_left
                  · simp only [Act.put, List.setIfInBounds_toArray, List.set_cons_zero, List.set_cons_succ, i64_w, i32_w]
                    rfl
                  refine pure_ (i := 10) (N := some 86) (v := ?_) (a' := ?_) #[true, true, true, true, true, true, true, true, true, true, true, false] rfl rfl (any_of HT_.out (by kernel_rfl)) (fun _ _ _ h => h) (Or.inl ⟨by rfl, ?_⟩) ?_ ?_
                  rotate_left
                  · intro w'
                    go_simp
                    with_reducible rfl
                  rotate_left
                  · simp only [Act.put, List.setIfInBounds_toArray, List.set_cons_zero, List.set_cons_succ, i64_w, i32_w]
                    rfl
                  refine pure_ (i := 11) (N := some 4) (v := ?_) (a' := ?_) #[true, true, true, true, true, true, true, true, true, true, true, true] rfl rfl (any_of HT_.out (by kernel_rfl)) (fun _ _ _ h => h) (Or.inl ⟨by rfl, ?_⟩) ?_ ?_
                  rotate_left
                  · intro w'
                    go_simp
                    with_reducible rfl
                  rotate_left
                  · simp only [Act.put, List.setIfInBounds_toArray, List.set_cons_zero, List.set_cons_succ, i64_w, i32_w]
                    rfl
                  refine done_ (done_of HT_.out (by kernel_rfl)) ?_
                  try go_wp2
                  go_ret
                  exact ⟨by first | rfl | (simp [errW_none, errW_some] <;> rfl) | (simp [*, errW_none, errW_some] <;> rfl), by repeat (first | (with_reducible first | exact HB.out | apply below_alloc | apply pw_below_drewN | apply below_drew1 | refine below_set ?_ GE306.out | refine below_set ?_ GE307.out | refine below_set ?_ GE314.out) | exact HB.out)⟩
              · have H1 : (some false) = some r := by rw [if_neg (show ¬ (some q324).isNone = true by simp)] at H; exact H
                clear H
                have H := H1
                clear H1
                try simp only [errW_none, errW_some]
                obtain rfl := Option.some.inj H
                try go_wp2
                have n0_ := Aside0.mk (blk_drew BK306.out)
                have n1_ := Aside0.mk (blk_drew BK307.out)
                have n2_ := Aside0.mk (blk_drew BK314.out)
                have n3_ := Aside0.mk (below_drew1 HB.out)
                clear BK306
                clear BK307
                clear BK314
                clear HB
                have BK306 := n0_
                have BK307 := n1_
                have BK314 := n2_
                have HB := n3_
                clear n0_ n1_ n2_ n3_
                refine start_ (n := 12) (S := fun w' => True) (ds := []) #[false, false, false, false, false, false, false, false, false, false, false, false] (by kernel_rfl) rfl rfl trivial (fun hHeld => ?_); refine with_tabW fuseelaw08_DaytimeSeconds.tab9 fuseelaw08_DaytimeSeconds.bits9 (fun HT_ HW_ => ?_)
                generalize wc.drew = w111 at BK306 BK307 BK314 HB hHeld ⊢
                refine pure_ (i := 0) (N := some 76) (v := ?_) (a' := ?_) #[true, false, false, false, false, false, false, false, false, false, false, false] rfl rfl (any_of HT_.out (by kernel_rfl)) (fun _ _ _ h => h) (Or.inl ⟨by rfl, ?_⟩) ?_ ?_
                rotate_left
                · intro w'
                  go_simp
                  with_reducible rfl
                rotate_left
                · simp only [Act.put, List.setIfInBounds_toArray, List.set_cons_zero, List.set_cons_succ, i64_w, i32_w]
                  rfl
                refine pure_ (i := 1) (N := some 77) (v := ?_) (a' := ?_) #[true, true, false, false, false, false, false, false, false, false, false, false] rfl rfl (any_of HT_.out (by kernel_rfl)) (fun _ _ _ h => h) (Or.inl ⟨by rfl, ?_⟩) ?_ ?_
                rotate_left
                · intro w'
                  go_simp
                  with_reducible rfl
                rotate_left
                · simp only [Act.put, List.setIfInBounds_toArray, List.set_cons_zero, List.set_cons_succ, i64_w, i32_w]
                  rfl
                refine pure_ (i := 2) (N := some 78) (v := ?_) (a' := ?_) #[true, true, true, false, false, false, false, false, false, false, false, false] rfl rfl (any_of HT_.out (by kernel_rfl)) (fun _ _ _ h => h) (Or.inl ⟨by rfl, ?_⟩) ?_ ?_
                rotate_left
                · intro w'
                  go_simp
                  with_reducible rfl
                rotate_left
                · simp only [Act.put, List.setIfInBounds_toArray, List.set_cons_zero, List.set_cons_succ, i64_w, i32_w]
                  rfl
                refine pure_ (i := 3) (N := some 79) (v := undef) (a' := ?_) #[true, true, true, true, false, false, false, false, false, false, false, false] rfl rfl (any_of HT_.out (by kernel_rfl)) (fun _ _ _ h => h) (Or.inr ⟨by rfl, rfl⟩) ?_ ?_
                rotate_left
                · simp only [Act.put, List.setIfInBounds_toArray, List.set_cons_zero, List.set_cons_succ, i64_w, i32_w]
                  rfl
                refine pure_ (i := 4) (N := some 80) (v := undef) (a' := ?_) #[true, true, true, true, true, false, false, false, false, false, false, false] rfl rfl (any_of HT_.out (by kernel_rfl)) (fun _ _ _ h => h) (Or.inr ⟨by rfl, rfl⟩) ?_ ?_
                rotate_left
                · simp only [Act.put, List.setIfInBounds_toArray, List.set_cons_zero, List.set_cons_succ, i64_w, i32_w]
                  rfl
                refine pure_ (i := 5) (N := some 81) (v := undef) (a' := ?_) #[true, true, true, true, true, true, false, false, false, false, false, false] rfl rfl (any_of HT_.out (by kernel_rfl)) (fun _ _ _ h => h) (Or.inr ⟨by rfl, rfl⟩) ?_ ?_
                rotate_left
                · simp only [Act.put, List.setIfInBounds_toArray, List.set_cons_zero, List.set_cons_succ, i64_w, i32_w]
                  rfl
                refine pure_ (i := 6) (N := some 82) (v := undef) (a' := ?_) #[true, true, true, true, true, true, true, false, false, false, false, false] rfl rfl (any_of HT_.out (by kernel_rfl)) (fun _ _ _ h => h) (Or.inr ⟨by rfl, rfl⟩) ?_ ?_
                rotate_left
                · simp only [Act.put, List.setIfInBounds_toArray, List.set_cons_zero, List.set_cons_succ, i64_w, i32_w]
                  rfl
                refine pure_ (i := 7) (N := some 83) (v := ?_) (a' := ?_) #[true, true, true, true, true, true, true, true, false, false, false, false] rfl rfl (any_of HT_.out (by kernel_rfl)) (fun _ _ _ h => h) (Or.inl ⟨by rfl, ?_⟩) ?_ ?_
                rotate_left
                · intro w'
                  go_simp
                  with_reducible rfl
                rotate_left
                · simp only [Act.put, List.setIfInBounds_toArray, List.set_cons_zero, List.set_cons_succ, i64_w, i32_w]
                  rfl
                refine pure_ (i := 8) (N := some 84) (v := ?_) (a' := ?_) #[true, true, true, true, true, true, true, true, true, false, false, false] rfl rfl (any_of HT_.out (by kernel_rfl)) (fun _ _ _ h => h) (Or.inl ⟨by rfl, ?_⟩) ?_ ?_
                rotate_left
                · intro w'
                  go_simp
                  with_reducible rfl
                rotate_left
                · simp only [Act.put, List.setIfInBounds_toArray, List.set_cons_zero, List.set_cons_succ, i64_w, i32_w]
                  rfl
                refine pure_ (i := 9) (N := some 85) (v := undef) (a' := ?_) #[true, true, true, true, true, true, true, true, true, true, false, false] rfl rfl (any_of HT_.out (by kernel_rfl)) (fun _ _ _ h => h) (Or.inr ⟨by rfl, rfl⟩) ?_ ?_
                rotate_left
                · simp only [Act.put, List.setIfInBounds_toArray, List.set_cons_zero, List.set_cons_succ, i64_w, i32_w]
                  rfl
                refine pure_ (i := 10) (N := some 86) (v := ?_) (a' := ?_) #[true, true, true, true, true, true, true, true, true, true, true, false] rfl rfl (any_of HT_.out (by kernel_rfl)) (fun _ _ _ h => h) (Or.inl ⟨by rfl, ?_⟩) ?_ ?_
                rotate_left
                · intro w'
                  go_simp
                  with_reducible rfl
                rotate_left
                · simp only [Act.put, List.setIfInBounds_toArray, List.set_cons_zero, List.set_cons_succ, i64_w, i32_w]
                  rfl
                refine pure_ (i := 11) (N := some 4) (v := ?_) (a' := ?_) #[true, true, true, true, true, true, true, true, true, true, true, true] rfl rfl (any_of HT_.out (by kernel_rfl)) (fun _ _ _ h => h) (Or.inl ⟨by rfl, ?_⟩) ?_ ?_
                rotate_left
                · intro w'
                  go_simp
                  with_reducible rfl
                rotate_left
                · simp only [Act.put, List.setIfInBounds_toArray, List.set_cons_zero, List.set_cons_succ, i64_w, i32_w]
                  rfl
                refine done_ (done_of HT_.out (by kernel_rfl)) ?_
                try go_wp2
                go_ret
                exact ⟨by first | rfl | (simp [errW_none, errW_some] <;> rfl) | (simp [*, errW_none, errW_some] <;> rfl), by repeat (first | (with_reducible first | exact HB.out | apply below_alloc | apply pw_below_drewN | apply below_drew1 | refine below_set ?_ GE306.out | refine below_set ?_ GE307.out | refine below_set ?_ GE314.out) | exact HB.out)⟩

end Go.Proofs.YtfjifhkgifefeaaGreatDoor.PA
end

section
/- The pure law of DaytimeSeconds: for every time and every second the program's answers are the document's. -/
namespace Go.Proofs.YtfjifhkgifefeaaGreatDoor.Pure
open Go.RowKit Go.Proofs.YtfjifhkgifefeaaGreatDoor.PA Go.Proofs.YtfjifhkgifefeaaGreatDoor.CivM Go.Proofs.YtfjifhkgifefeaaGreatDoor.CivP Go.Proofs.YtfjifhkgifefeaaGreatDoor.StrM Go.Proofs.YtfjifhkgifefeaaGreatDoor.Giv Go.Proofs.YtfjifhkgifefeaaGreatDoorW.PrintWords

theorem seconds_j0 (k : Nat) (hk : 6 ≤ k) (n a b c : Int) (r : Option Int) (h : daytime_Of.f 10 n = some (a, b, c, r)) : fuseelaw08_DaytimeSeconds.j0 (k + 1 + 1) n r false a b c = some true := by
  rw [tof 10 n (by omega)] at h
  simp only [fuseelaw08_DaytimeSeconds.j0, Bool.false_eq_true, if_false]
  have J : fuseelaw08_DaytimeSeconds.j1 (k + 1) n r (decide (n < 0 ∨ 86400 < n)) a b c = some true := by
    simp only [fuseelaw08_DaytimeSeconds.j1, decide_eq_true_eq]
    by_cases o : n < 0 ∨ 86400 < n
    · rw [if_pos o] at h
      simp only [Option.some.injEq, Prod.mk.injEq] at h
      obtain ⟨rfl, rfl, rfl, rfl⟩ := h
      rw [if_pos o]
      simp only [fuseelaw08_num.f, Option.bind_some, Option.getD_some, if_true, beq_self_eq_true, Bool.and_self]
      rw [dsure k (by omega)]; rfl
    · rw [if_neg o] at h
      simp only [Option.some.injEq, Prod.mk.injEq] at h
      obtain ⟨rfl, rfl, rfl, rfl⟩ := h
      rw [if_neg o, rtof n (by omega) (by omega)]
      simp only [Option.isNone_none, Option.bind_some, if_true, beq_self_eq_true, Bool.and_self]
      rw [dsure k (by omega)]; rfl
  by_cases x : n < 0
  · rw [if_pos x]; rw [decide_eq_true (.inl x)] at J; exact J
  · rw [if_neg x]
    have e : decide (n > 86400) = decide (n < 0 ∨ 86400 < n) := by
      rw [decide_eq_decide]; omega
    rw [e]; exact J
theorem DaytimeSeconds (h m s n : Int) (_ : -9223372036854775808 ≤ n) (_ : n ≤ 9223372036854775807) : ∃ k, fuseelaw08_DaytimeSeconds.f k h m s n = some true := by
  refine ⟨10, ?_⟩
  unfold fuseelaw08_DaytimeSeconds.f
  obtain ⟨⟨a, b, c, r⟩, ho⟩ : ∃ p, daytime_Of.f 10 n = some p := by rw [tof 10 n (by omega)]; exact ⟨_, rfl⟩
  have J := seconds_j0 8 (by omega) n a b c r ho
  rw [ho, tseconds, rseconds 10 h m s (by omega), tcheck]
  simp only [Option.bind_some]
  by_cases v : tvld h m s
  · have hb := tsec_bd h m s v
    simp only [if_pos v, Option.isNone_none, if_true, decide_eq_true (show tsec h m s ≥ 0 from hb.1), bne_self_eq_false, Bool.false_eq_true, if_false]
    exact J
  · have hn : decide ((-1 : Int) ≥ 0) = false := by decide
    simp only [if_neg v, Option.isNone_some, Bool.false_eq_true, if_false, hn, bne_self_eq_false, fuseelaw08_num.f, Option.bind_some, Option.getD_some, if_true]
    exact J
end Go.Proofs.YtfjifhkgifefeaaGreatDoor.Pure
end

section
/- From the rows' condition 'laid' to the walks' hypothesis; and a world that meets the condition (what the program's door lays, and the pinned table). -/
namespace Go.Proofs.YtfjifhkgifefeaaGreatDoor.LaidP
open Go.RowKit Go.Proofs.YtfjifhkgifefeaaGreatDoor Go.Proofs.YtfjifhkgifefeaaGreatDoor.Giv

abbrev laidL : List (String × DataW Unit) := [("math/bits.deBruijn32tab", Rows.laid_math_bits_deBruijn32tab), ("math/bits.deBruijn64tab", Rows.laid_math_bits_deBruijn64tab), ("internal/strconv.uint64pow10", Rows.laid_internal_strconv_uint64pow10), ("unicode/utf8.acceptRanges", Rows.laid_unicode_utf8_acceptRanges), ("errors.errorType", Rows.laid_errors_errorType), ("strconv.ErrRange", Rows.laid_strconv_ErrRange), ("strconv.ErrSyntax", Rows.laid_strconv_ErrSyntax), ("unicode/utf8.first", Rows.laid_unicode_utf8_first)]
abbrev laidD : List (String × DataW Unit) := [("math/bits.deBruijn32tab", Rows.laid_math_bits_deBruijn32tab), ("math/bits.deBruijn64tab", Rows.laid_math_bits_deBruijn64tab), ("internal/strconv.uint64pow10", Rows.laid_internal_strconv_uint64pow10), ("unicode/utf8.acceptRanges", Rows.laid_unicode_utf8_acceptRanges), ("strconv.ErrRange", Rows.laid_strconv_ErrRange), ("strconv.ErrSyntax", Rows.laid_strconv_ErrSyntax), ("unicode/utf8.first", Rows.laid_unicode_utf8_first)]

theorem own : ownKnob Tryz.prog.godebug = none := by kernel_rfl
theorem gTy : Tryz.prog.globalNamed "errors.errorType" = some 0 := by kernel_rfl
theorem gSyn : Tryz.prog.globalNamed "strconv.ErrSyntax" = some 1 := by kernel_rfl
theorem gRng : Tryz.prog.globalNamed "strconv.ErrRange" = some 2 := by kernel_rfl
theorem tSyn : (Tryz.prog.globals[1]?).map (·.type) = some 28 := by kernel_rfl
theorem tRng : (Tryz.prog.globals[2]?).map (·.type) = some 28 := by kernel_rfl
theorem tPow : (Tryz.prog.globals[4]?).map (·.type) = some 303 := by kernel_rfl
theorem rt : (Tryz.prog.cutTypes.find? (·.1 == "internal/reflectlite.rtype")).map (·.2) = some 260 := by kernel_rfl
theorem oneRow : ((List.range 344).filter fun t => Tryz.prog.rowNamed t [101, 114, 114, 111, 114]) = [28] := by kernel_rfl
theorem size : Tryz.prog.types.size = 344 := by kernel_rfl
theorem cellsU : Tryz.prog.cellsOf 282 = 1 := by kernel_rfl
theorem cellsP : Tryz.prog.cellsOf 303 = 20 := by kernel_rfl
theorem cellsE : Tryz.prog.cellsOf 309 = 1 := by kernel_rfl
theorem cellsS : Tryz.prog.cellsOf 9 = 1 := by kernel_rfl
theorem star : "*" ++ "errors.errorString" = "*errors.errorString" := by decide
theorem rowErr (u : TypeId) (h : Tryz.prog.typeName? 3 u = some "*errors.errorString") : u = 307 :=
  typeName_ptr_named (nm := "errors.errorString") (by rw [star]; kernel_rfl) (by kernel_rfl) (by decide) u (by rw [star]; exact h)
theorem low_gt : Nat.ble (9 + 1) Tryz.prog.low = true := by kernel_rfl
theorem glob : Tryz.prog.globals.size = 9 := by kernel_rfl

theorem of_laid {W : World} (h : laidMetH Tryz.prog laidL W) (hs : W.ShapedOpen Tryz.prog) : Laid W := by
  obtain ⟨hm0, hh⟩ := h
  have hm : laidMet Tryz.prog laidD W := hm0
  have ht : Lib.TabIs Tryz.prog W "internal/strconv.uint64pow10" .u64 Lib.pow10Tab :=
    Lib.tabIs_of_head (zs := Lib.pow10Tab) gPow tPow Tryz.underlying303 Tryz.underlying282 cellsU cellsP (rest := laidD.tail.tail.tail) hm.tail.tail
  have hlow : Tryz.prog.low ≤ W.heap.size := by
    have h1 := Nat.le_of_ble_eq_true low_gt
    obtain ⟨o, o0, e, _, _⟩ := hs.2 (Tryz.prog.low - 1) (by rw [glob]; omega) (show Tryz.prog.low - 1 < Tryz.prog.low by omega)
    have := (Array.getElem?_eq_some_iff.1 e).1
    omega
  have h1 := Nat.le_of_ble_eq_true low_gt
  have hE := hm.tail.tail.tail.tail
  obtain ⟨a0, s0, hv0, -, -, -⟩ := laid_sentinel hE gRng tRng Tryz.underlying28 rowErr Tryz.underlying307 Tryz.underlying309 rfl rfl Tryz.underlying9 cellsE cellsS
  obtain ⟨a1, s1, hv1, -, -, -⟩ := laid_sentinel hE.tail gSyn tSyn Tryz.underlying28 rowErr Tryz.underlying307 Tryz.underlying309 rfl rfl Tryz.underlying9 cellsE cellsS
  refine ⟨hs, ht, ⟨_, _, by simpa using World.var?_cell gSyn hv1 0⟩, ⟨_, _, by simpa using World.var?_cell gRng hv0 0⟩, ?_, hlow, by omega⟩
  obtain ⟨name, u, ty, e1, e2, e3, e4, e5⟩ := hh _ (List.mem_cons_self ..)
  have en : name = [101, 114, 114, 111, 114] := (Option.some.inj e1).symm
  subst en
  obtain rfl := Option.some.inj (rt.symm.trans e2)
  have hmm : ty ∈ (List.range 344).filter fun t => Tryz.prog.rowNamed t [101, 114, 114, 111, 114] := List.mem_filter.2 ⟨List.mem_range.2 (by rw [← size]; exact e3), e4⟩
  rw [oneRow] at hmm
  obtain rfl := List.mem_singleton.1 hmm
  have hh2 : typeHandle Tryz.prog 28 = .pointer (some ⟨9, 28, none⟩) := by kernel_rfl
  rw [hh2] at e5
  simpa using World.var?_cell gTy e5 0

/-! ### a world that meets the condition -/
noncomputable def laidWorld (os : Os) : World :=
  let w0 := World.doorLaid Tryz.prog 79 os
  { w0 with heap := w0.heap.modify 5 fun
      | .cells _ t frozen => .cells (Go.Pinned.utf8FirstZ.map fun z : Nat => Value.int .u8 (Int.ofNat z)).toArray t frozen
      | o => o }
theorem laid_met (os : Os) (args : Array Value) : laidMetH Tryz.prog laidL ((laidWorld os).forCall (fun _ _ => 0) ⟨#[], args, []⟩).memory :=
  laidMetH_of_parts3 (fuel := 8) (laidMet_of_run' 8 (by kernel_rfl) (by kernel_rfl)) (by kernel_rfl) (by kernel_rfl)
end Go.Proofs.YtfjifhkgifefeaaGreatDoor.LaidP
end

