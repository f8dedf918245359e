/- Texts of this seat, put together: Qf45. -/
import Derived.Test.YtfmmpjfmdhdbmaaDoorZFnExactParseWarningLine
import Derived.Test.YtfmmpjfmdhdbmaaDoorBFnExactParseWarningLine0
import Derived.Test.YtfmmpjfmdhdbmaaDoorBFnExactParseWarningLine1
import Derived.Test.YtfmmpjfmdhdbmaaDoorBFnExactParseWarningLine2
namespace Go.Proofs.YtfmmpjfmdhdbmaaDoor.Q
open Go.RowKit Go.Proofs.YtfmmpjfmdhdbmaaDoorW.PrintWords Go.Proofs.YtfmmpjfmdhdbmaaDoorW.PrintLast Go.Proofs.YtfmmpjfmdhdbmaaDoorW.PrintMore
attribute [local go_sem] max2_int min2_int max_two min_two max_three min_three max_four min_four   -- for this text's walks alone
set_option linter.unusedVariables false
set_option linter.unusedSimpArgs false

/-! ### spec_l17Parse: function 45 -/
mutual
def spec_l17Parse.j0 : Nat → ByteArray → List ByteArray → Bool → Int → Int → Int → Int → Int → Int → Option (Int × Int × Int × Int × Int × Int × Bool)
 | 0, _, _, _, _, _, _, _, _, _ => none
 | k + 1, x0, x5, x47, x437000, x437001, x437002, x437003, x437004, x437005 => if x47 = true then (some (x437000, x437001, x437002, x437003, x437004, x437005, false)) else (if 6 < (x5.length : Int) then ((spec_l1Split.f k (rdOf ByteArray.empty x5 6) 45).bind fun t444 => (if (t444.length : Int) = 2 then (if 0 < (x5.length : Int) then (if 0 ≤ (wrap64 (((rdOf ByteArray.empty x5 0).size : Int) - 1)) then (if (wrap64 (((rdOf ByteArray.empty x5 0).size : Int) - 1)) ≤ ((rdOf ByteArray.empty x5 0).size : Int) then ((spec_l1Read.f k ((rdOf ByteArray.empty x5 0).extract 0 ((wrap64 (((rdOf ByteArray.empty x5 0).size : Int) - 1)) : Int).toNat)).bind fun bt449 => (if 4 < (x5.length : Int) then (if 0 ≤ (wrap64 (((rdOf ByteArray.empty x5 4).size : Int) - 1)) then (if (wrap64 (((rdOf ByteArray.empty x5 4).size : Int) - 1)) ≤ ((rdOf ByteArray.empty x5 4).size : Int) then ((spec_l1Read.f k ((rdOf ByteArray.empty x5 4).extract 0 ((wrap64 (((rdOf ByteArray.empty x5 4).size : Int) - 1)) : Int).toNat)).bind fun bt453 => (if 0 < (t444.length : Int) then ((spec_l1Read.f k (rdOf ByteArray.empty t444 0)).bind fun bt456 => (if 1 < (t444.length : Int) then ((spec_l1Read.f k (rdOf ByteArray.empty t444 1)).bind fun bt459 => ((spec_l17Topics.f).bind fun t461 => (if 2 < (x5.length : Int) then (if 0 ≤ (wrap64 (((rdOf ByteArray.empty x5 2).size : Int) - 1)) then (if (wrap64 (((rdOf ByteArray.empty x5 2).size : Int) - 1)) ≤ ((rdOf ByteArray.empty x5 2).size : Int) then ((spec_l17Index.f k t461 ((rdOf ByteArray.empty x5 2).extract 0 ((wrap64 (((rdOf ByteArray.empty x5 2).size : Int) - 1)) : Int).toNat)).bind fun t466 => ((spec_l17Levels.f).bind fun t467 => (if 1 < (x5.length : Int) then ((spec_l17Index.f k t467 (rdOf ByteArray.empty x5 1)).bind fun t471 => (if bt449.2 = true then (if bt453.2 = true then (if bt456.2 = true then (if bt459.2 = true then ((spec_l14Good.f bt449.1 t466 t471 bt453.1 bt456.1 bt459.1).bind fun t473 => (if t473 = true then ((spec_l17Line.f k bt449.1 t466 t471 bt453.1 bt456.1 bt459.1).bind fun t474 => (spec_l17Parse.j1 k (t474.toList != x0.toList) x437000 x437001 x437002 x437003 x437004 x437005 bt449.1 t466 t471 bt453.1 bt456.1 bt459.1)) else (spec_l17Parse.j1 k true x437000 x437001 x437002 x437003 x437004 x437005 bt449.1 t466 t471 bt453.1 bt456.1 bt459.1))) else (spec_l17Parse.j1 k true x437000 x437001 x437002 x437003 x437004 x437005 bt449.1 t466 t471 bt453.1 bt456.1 bt459.1)) else (spec_l17Parse.j1 k true x437000 x437001 x437002 x437003 x437004 x437005 bt449.1 t466 t471 bt453.1 bt456.1 bt459.1)) else (spec_l17Parse.j1 k true x437000 x437001 x437002 x437003 x437004 x437005 bt449.1 t466 t471 bt453.1 bt456.1 bt459.1)) else (spec_l17Parse.j1 k true x437000 x437001 x437002 x437003 x437004 x437005 bt449.1 t466 t471 bt453.1 bt456.1 bt459.1))) else (none)))) else (none)) else (none)) else (none)))) else (none))) else (none))) else (none)) else (none)) else (none))) else (none)) else (none)) else (none)) else (some (x437000, x437001, x437002, x437003, x437004, x437005, false)))) else (none))
def spec_l17Parse.j1 : Nat → Bool → Int → Int → Int → Int → Int → Int → Int → Int → Int → Int → Int → Int → Option (Int × Int × Int × Int × Int × Int × Bool)
 | 0, _, _, _, _, _, _, _, _, _, _, _, _, _ => none
 | k + 1, x142, x437000, x437001, x437002, x437003, x437004, x437005, x473000, x473001, x473002, x473003, x473004, x473005 => if x142 = true then (some (x437000, x437001, x437002, x437003, x437004, x437005, false)) else (some (x473000, x473001, x473002, x473003, x473004, x473005, true))
end
def spec_l17Parse.f (k : Nat) (a0 : ByteArray) : Option (Int × Int × Int × Int × Int × Int × Bool) := (spec_l1Split.f k a0 32).bind fun t437 => (if (a0.size : Int) > 60 then (spec_l17Parse.j0 k a0 t437 true 0 0 0 0 0 0) else (if (t437.length : Int) = 7 then (if 0 < (t437.length : Int) then (if ((rdOf ByteArray.empty t437 0).size : Int) < 2 then (spec_l17Parse.j0 k a0 t437 true 0 0 0 0 0 0) else (if 2 < (t437.length : Int) then (if ((rdOf ByteArray.empty t437 2).size : Int) < 2 then (spec_l17Parse.j0 k a0 t437 true 0 0 0 0 0 0) else (if 4 < (t437.length : Int) then (spec_l17Parse.j0 k a0 t437 (decide (((rdOf ByteArray.empty t437 4).size : Int) < 2)) 0 0 0 0 0 0) else (none))) else (none))) else (none)) else (spec_l17Parse.j0 k a0 t437 true 0 0 0 0 0 0)))
theorem spec_l17Parse.mono_l : ∀ k, (∀ y0 y1 y2 y3 y4 y5 y6 y7 y8, LeO (spec_l17Parse.j0 k y0 y1 y2 y3 y4 y5 y6 y7 y8) (spec_l17Parse.j0 (k + 1) y0 y1 y2 y3 y4 y5 y6 y7 y8)) ∧ (∀ y0 y1 y2 y3 y4 y5 y6 y7 y8 y9 y10 y11 y12, LeO (spec_l17Parse.j1 k y0 y1 y2 y3 y4 y5 y6 y7 y8 y9 y10 y11 y12) (spec_l17Parse.j1 (k + 1) y0 y1 y2 y3 y4 y5 y6 y7 y8 y9 y10 y11 y12))
 | 0 => ⟨fun _ _ _ _ _ _ _ _ _ r h => by simp [spec_l17Parse.j0] at h, fun _ _ _ _ _ _ _ _ _ _ _ _ _ r h => by simp [spec_l17Parse.j1] at h⟩
 | k + 1 => by
  obtain ⟨ih0, ih1⟩ := spec_l17Parse.mono_l k
  refine ⟨?_, ?_⟩
  ·
   intro y0 y1 y2 y3 y4 y5 y6 y7 y8
   unfold spec_l17Parse.j0
   repeat' first
   | (with_reducible exact ih0 _ _ _ _ _ _ _ _ _)
   | (with_reducible exact ih1 _ _ _ _ _ _ _ _ _ _ _ _ _)
   | (with_reducible exact spec_l17Index.mono _ _ _)
   | (with_reducible exact spec_l17Line.mono _ _ _ _ _ _ _)
   | (with_reducible exact spec_l1Read.mono _ _)
   | (with_reducible exact spec_l1Split.mono _ _ _)
   | (with_reducible exact LeO.refl _)
   | (with_reducible exact LeO.none _)
   | (with_reducible refine LeO.ite ?_ ?_)
   | (with_reducible refine LeO.bind ?_ (fun _ => ?_))
   | exact ih0 _ _ _ _ _ _ _ _ _
   | exact ih1 _ _ _ _ _ _ _ _ _ _ _ _ _
   | exact spec_l17Index.mono _ _ _
   | exact spec_l17Line.mono _ _ _ _ _ _ _
   | exact spec_l1Read.mono _ _
   | exact spec_l1Split.mono _ _ _
   | exact LeO.none _
   | refine LeO.ite ?_ ?_
   | refine LeO.bind ?_ (fun _ => ?_)
  ·
   intro y0 y1 y2 y3 y4 y5 y6 y7 y8 y9 y10 y11 y12
   unfold spec_l17Parse.j1
   repeat' first
   | (with_reducible exact ih0 _ _ _ _ _ _ _ _ _)
   | (with_reducible exact ih1 _ _ _ _ _ _ _ _ _ _ _ _ _)
   | (with_reducible exact spec_l17Index.mono _ _ _)
   | (with_reducible exact spec_l17Line.mono _ _ _ _ _ _ _)
   | (with_reducible exact spec_l1Read.mono _ _)
   | (with_reducible exact spec_l1Split.mono _ _ _)
   | (with_reducible exact LeO.refl _)
   | (with_reducible exact LeO.none _)
   | (with_reducible refine LeO.ite ?_ ?_)
   | (with_reducible refine LeO.bind ?_ (fun _ => ?_))
   | exact ih0 _ _ _ _ _ _ _ _ _
   | exact ih1 _ _ _ _ _ _ _ _ _ _ _ _ _
   | exact spec_l17Index.mono _ _ _
   | exact spec_l17Line.mono _ _ _ _ _ _ _
   | exact spec_l1Read.mono _ _
   | exact spec_l1Split.mono _ _ _
   | exact LeO.none _
   | refine LeO.ite ?_ ?_
   | refine LeO.bind ?_ (fun _ => ?_)
theorem spec_l17Parse.mono : ∀ a0 k, LeO (spec_l17Parse.f k a0) (spec_l17Parse.f (k + 1) a0) := by
 intro a0 k
 obtain ⟨ih0, ih1⟩ := spec_l17Parse.mono_l k
 unfold spec_l17Parse.f
 repeat' first
   | (with_reducible exact ih0 _ _ _ _ _ _ _ _ _)
   | (with_reducible exact ih1 _ _ _ _ _ _ _ _ _ _ _ _ _)
   | (with_reducible exact spec_l17Index.mono _ _ _)
   | (with_reducible exact spec_l17Line.mono _ _ _ _ _ _ _)
   | (with_reducible exact spec_l1Read.mono _ _)
   | (with_reducible exact spec_l1Split.mono _ _ _)
   | (with_reducible exact LeO.refl _)
   | (with_reducible exact LeO.none _)
   | (with_reducible refine LeO.ite ?_ ?_)
   | (with_reducible refine LeO.bind ?_ (fun _ => ?_))
   | exact ih0 _ _ _ _ _ _ _ _ _
   | exact ih1 _ _ _ _ _ _ _ _ _ _ _ _ _
   | exact spec_l17Index.mono _ _ _
   | exact spec_l17Line.mono _ _ _ _ _ _ _
   | exact spec_l1Read.mono _ _
   | exact spec_l1Split.mono _ _ _
   | exact LeO.none _
   | refine LeO.ite ?_ ?_
   | refine LeO.bind ?_ (fun _ => ?_)
def spec_l17Parse.T8 : Bool × List (List Nat × List Nat) := (true, [([], []), ([0], [0]), ([1], [1]), ([], []), ([3], [3]), ([4], [4]), ([5], [5]), ([6], [6]), ([2, 7], [2, 7]), ([8], [8]), ([9], [9]), ([10], [10]), ([10], [10]), ([11, 9, 0, 1, 2, 3, 4, 5, 6, 7, 8, 9, 10, 11], [11]), ([12, 13, 0, 1, 2, 3, 4, 5, 6, 7, 8, 9, 10, 11, 12, 13], [12])])
def spec_l17Parse.B8 : List Nat := [0, 1, 3, 0, 8, 24, 56, 120, 255, 511, 1023, 2047, 2047, 4095, 16383]
theorem spec_l17Parse.tab8 : rtab .any (opsOf Tryd.f45 8) = spec_l17Parse.T8 := by kernel_rfl
theorem spec_l17Parse.bits8 : waitsOk spec_l17Parse.T8.2 spec_l17Parse.B8 = true := by kernel_rfl
def spec_l17Parse.T9 : Bool × List (List Nat × List Nat) := (true, [([], []), ([0], [0]), ([1], [1]), ([], []), ([3], [3]), ([4], [4]), ([5], [5]), ([6], [6]), ([2, 7], [2, 7]), ([8], [8]), ([9], [9]), ([10], [10]), ([10], [10]), ([11, 9, 0, 1, 2, 3, 4, 5, 6, 7, 8, 9, 10, 11], [11]), ([12, 13, 0, 1, 2, 3, 4, 5, 6, 7, 8, 9, 10, 11, 12, 13], [12])])
def spec_l17Parse.B9 : List Nat := [0, 1, 3, 0, 8, 24, 56, 120, 255, 511, 1023, 2047, 2047, 4095, 16383]
theorem spec_l17Parse.tab9 : rtab .any (opsOf Tryd.f45 9) = spec_l17Parse.T9 := by kernel_rfl
theorem spec_l17Parse.bits9 : waitsOk spec_l17Parse.T9.2 spec_l17Parse.B9 = true := by kernel_rfl
def spec_l17Parse.T12 : Bool × List (List Nat × List Nat) := (true, [([], []), ([], []), ([], []), ([2], [2]), ([3], [3]), ([], []), ([5], [5]), ([6], [6]), ([7], [7]), ([8], [8]), ([4, 9], [4, 9]), ([1, 10, 1], [1, 10]), ([11], []), ([], []), ([13], [13]), ([14], [14]), ([12, 15, 12], [12, 15]), ([], []), ([], []), ([], []), ([0, 11, 16, 17, 18, 19], [0, 11, 16, 17, 18, 19]), ([], []), ([21, 20, 16, 0, 1, 2, 3, 4, 5, 6, 7, 8, 9, 10, 11, 12, 13, 14, 15, 16, 17, 18, 19, 20, 21], [20, 21])])
def spec_l17Parse.B12 : List Nat := [0, 0, 0, 4, 12, 0, 32, 96, 224, 480, 1020, 2046, 4094, 0, 8192, 24576, 65534, 0, 0, 0, 1048575, 0, 4194303]
theorem spec_l17Parse.tab12 : rtab .any (opsOf Tryd.f45 12) = spec_l17Parse.T12 := by kernel_rfl
theorem spec_l17Parse.bits12 : waitsOk spec_l17Parse.T12.2 spec_l17Parse.B12 = true := by kernel_rfl
set_option maxHeartbeats 8000000 in
set_option maxRecDepth 100000 in
theorem spec_l17Parse.calls (k : Nat) (a0 : ByteArray) (r1 : Int) (r2 : Int) (r3 : Int) (r4 : Int) (r5 : Int) (r6 : Int) (r7 : Bool) (w : World) (h : spec_l17Parse.f k a0 = some (r1, r2, r3, r4, r5, r6, r7)) :
  Calls Tryd.prog 45 #[.string a0] w fun e w' => e = .returned (.tuple #[.agg #[.int .i64 r1, .int .i64 r2, .int .i64 r3, .int .i64 r4, .int .i64 r5, .int .i64 r6], .bool r7]) ∧ Below w.heap.size w w' := by
 have hu23 := Tryd.underlying23
 have HB := Aside0.mk (Below.refl w.heap.size w)
 have H : ((spec_l1Split.f k a0 32).bind fun t437 => (if (a0.size : Int) > 60 then (spec_l17Parse.j0 k a0 t437 true 0 0 0 0 0 0) else (if (t437.length : Int) = 7 then (if 0 < (t437.length : Int) then (if ((rdOf ByteArray.empty t437 0).size : Int) < 2 then (spec_l17Parse.j0 k a0 t437 true 0 0 0 0 0 0) else (if 2 < (t437.length : Int) then (if ((rdOf ByteArray.empty t437 2).size : Int) < 2 then (spec_l17Parse.j0 k a0 t437 true 0 0 0 0 0 0) else (if 4 < (t437.length : Int) then (spec_l17Parse.j0 k a0 t437 (decide (((rdOf ByteArray.empty t437 4).size : Int) < 2)) 0 0 0 0 0 0) else (none))) else (none))) else (none)) else (spec_l17Parse.j0 k a0 t437 true 0 0 0 0 0 0)))) = some (r1, r2, r3, r4, r5, r6, r7) := h
 clear h
 replace H := Option.bind_eq_some_iff.mp H
 obtain ⟨t437, A20, H⟩ := H
 replace H : (if (a0.size : Int) > 60 then (spec_l17Parse.j0 k a0 t437 true 0 0 0 0 0 0) else (if (t437.length : Int) = 7 then (if 0 < (t437.length : Int) then (if ((rdOf ByteArray.empty t437 0).size : Int) < 2 then (spec_l17Parse.j0 k a0 t437 true 0 0 0 0 0 0) else (if 2 < (t437.length : Int) then (if ((rdOf ByteArray.empty t437 2).size : Int) < 2 then (spec_l17Parse.j0 k a0 t437 true 0 0 0 0 0 0) else (if 4 < (t437.length : Int) then (spec_l17Parse.j0 k a0 t437 (decide (((rdOf ByteArray.empty t437 4).size : Int) < 2)) 0 0 0 0 0 0) else (none))) else (none))) else (none)) else (spec_l17Parse.j0 k a0 t437 true 0 0 0 0 0 0))) = some (r1, r2, r3, r4, r5, r6, r7) := H
 have A2 := Aside0.mk A20
 clear A20
 have HC3 := Aside0.mk H
 clear H
 go_enter Tryd.func45, Tryd.ntmps45
 go_upto_region 3 with (first | ((with_reducible refine gate_dst (N := 2) rfl ?_); refine box_event ?hg (N := 2) ?hd (cs := #[.int .i64 0, .int .i64 0, .int .i64 0, .int .i64 0, .int .i64 0, .int .i64 0]) (t := 23) ?hr ?_; (case hd => rfl); (case hg => rfl); (case hr => exact zqS); intro gb435 hg w4 hbox hb; have n0_ := Aside0.mk (below_step zq0 hb); have n1_ := Aside0.mk (hbox); have n2_ := Aside0.mk ((by rw [hg]; exact (below_size zq0) : w.heap.size ≤ gb435)); have n3_ := n2_; clear HB; have HB := n0_; have BK435 := n1_; have GW435 := n2_; have GE435 := n3_; clear n0_ n1_ n2_ n3_; clear hb hbox hg) | ((with_reducible refine gate_dst (N := 4) rfl ?_); refine box_event ?hg (N := 4) ?hd (cs := #[.int .i64 0, .int .i64 0, .int .i64 0, .int .i64 0, .int .i64 0, .int .i64 0]) (t := 23) ?hr ?_; (case hd => rfl); (case hg => rfl); (case hr => exact zqS); intro gb436 hg w5 hbox hb; have n0_ := Aside0.mk (blk_below (g := gb435) (o := .cells #[.int .i64 0, .int .i64 0, .int .i64 0, .int .i64 0, .int .i64 0, .int .i64 0] 23 (0, 0)) (zqK BK435.out) hb); have n1_ := Aside0.mk (below_step zq30 hb); have n2_ := Aside0.mk (hbox); have n3_ := Aside0.mk ((by rw [hg]; exact (below_size zq30) : w.heap.size ≤ gb436)); have n4_ := n3_; have n5_ := Aside0.mk ((by rw [hg]; exact Nat.ne_of_lt (blk_lt (g := gb435) (o := .cells #[.int .i64 0, .int .i64 0, .int .i64 0, .int .i64 0, .int .i64 0, .int .i64 0] 23 (0, 0)) (zqK BK435.out)) : gb435 ≠ gb436)); have n6_ := Aside0.mk ((by rw [hg]; exact Nat.ne_of_gt (blk_lt (g := gb435) (o := .cells #[.int .i64 0, .int .i64 0, .int .i64 0, .int .i64 0, .int .i64 0, .int .i64 0] 23 (0, 0)) (zqK BK435.out)) : gb436 ≠ gb435)); clear BK435; clear HB; have BK435 := n0_; have HB := n1_; have BK436 := n2_; have GW436 := n3_; have GE436 := n4_; have NB435_436 := n5_; have NB436_435 := n6_; clear n0_ n1_ n2_ n3_ n4_ n5_ n6_; clear hb hbox hg; have hnb6 := NB436_435.out; have hnc6 := NB435_436.out; obtain ⟨hcz7_0, hcz7_1, hcz7_2, hcz7_3, hcz7_4, hcz7_5, hfz7_0, hfz7_1, hfz7_2, hfz7_3, hfz7_4, hfz7_5⟩ := bz6 BK436.out) | ((with_reducible refine gate_callee (f := 34) rfl ?_); refine goesL_ (some 18) rfl rfl Tryd.func34 (by kernel_rfl) rfl #[.string a0, .int .u8 32] rfl zq2 ?_; (with_reducible refine (spec_l1Split.calls k a0 32 t437 _ A2.out).mono ?_); rintro e w8 ⟨v438, rfl, ho0, hb⟩; refine ⟨_, rfl, ?_⟩; have n0_ := Aside0.mk (Kd.R_lower ho0 (below_size zq3)); have n1_ := Aside0.mk (blk_below (g := gb435) (o := .cells #[.int .i64 0, .int .i64 0, .int .i64 0, .int .i64 0, .int .i64 0, .int .i64 0] 23 (0, 0)) (by (with_reducible repeat (first | refine blk_drewN ?_ _ | refine blk_drew ?_ | refine blk_alloc ?_ _)); refine blk_far ?_ NB435_436.out _; (with_reducible repeat (first | refine blk_drewN ?_ _ | refine blk_drew ?_ | refine blk_alloc ?_ _)); refine blk_far ?_ NB435_436.out _; (with_reducible repeat (first | refine blk_drewN ?_ _ | refine blk_drew ?_ | refine blk_alloc ?_ _)); refine blk_far ?_ NB435_436.out _; (with_reducible repeat (first | refine blk_drewN ?_ _ | refine blk_drew ?_ | refine blk_alloc ?_ _)); refine blk_far ?_ NB435_436.out _; (with_reducible repeat (first | refine blk_drewN ?_ _ | refine blk_drew ?_ | refine blk_alloc ?_ _)); refine blk_far ?_ NB435_436.out _; (with_reducible repeat (first | refine blk_drewN ?_ _ | refine blk_drew ?_ | refine blk_alloc ?_ _)); refine blk_far ?_ NB435_436.out _; (with_reducible repeat (first | refine blk_drewN ?_ _ | refine blk_drew ?_ | refine blk_alloc ?_ _)); exact BK435.out) hb); have n2_ := Aside0.mk (blk_below (g := gb436) (o := .cells #[.int .i64 0, .int .i64 0, .int .i64 0, .int .i64 0, .int .i64 0, .int .i64 0] 23 (0, 0)) (by (with_reducible repeat (first | refine blk_drewN ?_ _ | refine blk_drew ?_ | refine blk_alloc ?_ _)); refine blk_put (cs := #[.int .i64 0, .int .i64 0, .int .i64 0, .int .i64 0, .int .i64 0, .int .i64 0]) ?_ 5 _ rfl; (with_reducible repeat (first | refine blk_drewN ?_ _ | refine blk_drew ?_ | refine blk_alloc ?_ _)); refine blk_put (cs := #[.int .i64 0, .int .i64 0, .int .i64 0, .int .i64 0, .int .i64 0, .int .i64 0]) ?_ 4 _ rfl; (with_reducible repeat (first | refine blk_drewN ?_ _ | refine blk_drew ?_ | refine blk_alloc ?_ _)); refine blk_put (cs := #[.int .i64 0, .int .i64 0, .int .i64 0, .int .i64 0, .int .i64 0, .int .i64 0]) ?_ 3 _ rfl; (with_reducible repeat (first | refine blk_drewN ?_ _ | refine blk_drew ?_ | refine blk_alloc ?_ _)); refine blk_put (cs := #[.int .i64 0, .int .i64 0, .int .i64 0, .int .i64 0, .int .i64 0, .int .i64 0]) ?_ 2 _ rfl; (with_reducible repeat (first | refine blk_drewN ?_ _ | refine blk_drew ?_ | refine blk_alloc ?_ _)); refine blk_put (cs := #[.int .i64 0, .int .i64 0, .int .i64 0, .int .i64 0, .int .i64 0, .int .i64 0]) ?_ 1 _ rfl; (with_reducible repeat (first | refine blk_drewN ?_ _ | refine blk_drew ?_ | refine blk_alloc ?_ _)); refine blk_put (cs := #[.int .i64 0, .int .i64 0, .int .i64 0, .int .i64 0, .int .i64 0, .int .i64 0]) ?_ 0 _ rfl; (with_reducible repeat (first | refine blk_drewN ?_ _ | refine blk_drew ?_ | refine blk_alloc ?_ _)); exact BK436.out) hb); have n3_ := Aside0.mk (below_step zq3 hb); clear BK435; clear BK436; clear HB; have HO439 := n0_; have BK435 := n1_; have BK436 := n2_; have HB := n3_; clear n0_ n1_ n2_ n3_; (try clear hb); (try clear hb2); (try clear hk); (try clear hi); (try clear ho0)))
 (try simp only [Act.put, List.setIfInBounds_toArray, List.set_cons_zero, List.set_cons_succ])
 go_cut [47] (fun v47 wc => ∃ (kq : Nat) (x47_2 : Bool), v47 = .bool x47_2 ∧ Aside0 (spec_l17Parse.j0 kq a0 t437 x47_2 0 0 0 0 0 0 = some (r1, r2, r3, r4, r5, r6, r7)) ∧ Aside0 (kq ≤ k) ∧ Aside0 (Kd.R Kd.string 9 wc w.heap.size (fun _ => True) v438 t437) ∧ Aside0 (wc.heap[gb435]? = some (.cells #[.int .i64 0, .int .i64 0, .int .i64 0, .int .i64 0, .int .i64 0, .int .i64 0] 23 (0, 0))) ∧ Aside0 (wc.heap[gb436]? = some (.cells #[.int .i64 0, .int .i64 0, .int .i64 0, .int .i64 0, .int .i64 0, .int .i64 0] 23 (0, 0))) ∧ Aside0 (Below w.heap.size w wc))
 case first =>
  have H := HC3.out
  clear HC3
  by_cases c9 : (a0.size : Int) > 60
  case pos =>
   rw [if_pos c9] at H
   have c9b0 : decide (60 < (a0.size : Int)) = true := decide_eq_true c9
   have c9b1 : decide (60 < a0.size) = true := decide_eq_true (by omega)
   clear c9
   (first | rw [c9b0] | (simp only [i64_w, i32_w]; rw [c9b0]) | rw [c9b1] | skip)
   have H' := Aside0.mk H
   clear H
   go_wp2
   go_meet
   case rel => exact ⟨_, (true), (by first | rfl | (simp; done) | (simp [*]; done)), H', ⟨by first | omega | exact Nat.le_refl _⟩, ⟨zqR HO439.out⟩, ⟨by (with_reducible repeat (first | refine blk_drewN ?_ _ | refine blk_drew ?_ | refine blk_alloc ?_ _)); exact BK435.out⟩, ⟨by (with_reducible repeat (first | refine blk_drewN ?_ _ | refine blk_drew ?_ | refine blk_alloc ?_ _)); exact BK436.out⟩, ⟨zq3⟩⟩
  rw [if_neg c9] at H
  have c9b0 : decide (60 < (a0.size : Int)) = false := decide_eq_false c9
  have c9b1 : decide (60 < a0.size) = false := decide_eq_false (by omega)
  clear c9
  (first | rw [c9b0] | (simp only [i64_w, i32_w]; rw [c9b0]) | rw [c9b1] | skip)
  by_cases c10 : (t437.length : Int) = 7
  case neg =>
   rw [if_neg c10] at H
   have c10b0 : ((t437.length : Int) == 7) = false := beq_eq_false_iff_ne.mpr c10
   have c10b1 : ((t437.length : Int) != 7) = true := bne_iff_ne.mpr c10
   have H' := Aside0.mk H
   clear H
   obtain ⟨Ao19, co19, eo19⟩ := Kd.R_slice HO439.out
   subst eo19
   go_wp2
   go_meet
   case rel => exact ⟨_, (true), (by first | rfl | (simp; done) | (simp [*]; done)), H', ⟨by first | omega | exact Nat.le_refl _⟩, ⟨zqR HO439.out⟩, ⟨by (with_reducible repeat (first | refine blk_drewN ?_ _ | refine blk_drew ?_ | refine blk_alloc ?_ _)); exact BK435.out⟩, ⟨by (with_reducible repeat (first | refine blk_drewN ?_ _ | refine blk_drew ?_ | refine blk_alloc ?_ _)); exact BK436.out⟩, ⟨zq3⟩⟩
  rw [if_pos c10] at H
  have c10b0 : ((t437.length : Int) == 7) = true := beq_iff_eq.mpr c10
  have c10b1 : ((t437.length : Int) != 7) = false := bne_eq_false_iff_eq.mpr c10
  clear c10
  by_cases c11 : 0 < (t437.length : Int)
  case neg =>
   rw [if_neg c11] at H
   exact absurd H (by simp)
  rw [if_pos c11] at H
  have c11b0 : decide (0 < (t437.length : Int)) = true := decide_eq_true c11
  have c11b1 : decide (0 < t437.length) = true := decide_eq_true (by omega)
  clear c11
  by_cases c12 : ((rdOf ByteArray.empty t437 0).size : Int) < 2
  case pos =>
   rw [if_pos c12] at H
   have c12b0 : decide (((rdOf ByteArray.empty t437 0).size : Int) < 2) = true := decide_eq_true c12
   have c12b1 : decide ((rdOf ByteArray.empty t437 0).size < 2) = true := decide_eq_true (by omega)
   clear c12
   have H' := Aside0.mk H
   clear H
   obtain ⟨Ao13, co13, eo13⟩ := Kd.R_slice HO439.out
   subst eo13
   have p440 : 0 ≤ (0 : Int) := (by omega)
   have q440 : 0 < (t437.length : Int) := of_decide_eq_true zq6
   obtain ⟨ad440, e440, hx440_0⟩ := Kd.at_string (Kd.R_reads' HO439.out).2.2 0 p440 q440
   cases e440
   have qi440 : (0 < t437.length) = True := eq_true (by omega)
   (try rw [show ((0 : Int)).toNat = 0 from rfl] at hx440_0)
   (try rw [Addr.add_zero'] at hx440_0)
   replace p440 := eq_true p440
   replace q440 := eq_true q440
   go_wp2
   go_meet
   case rel => exact ⟨_, (true), (by first | rfl | (simp; done) | (simp [*]; done)), H', ⟨by first | omega | exact Nat.le_refl _⟩, ⟨zqR HO439.out⟩, ⟨by (with_reducible repeat (first | refine blk_drewN ?_ _ | refine blk_drew ?_ | refine blk_alloc ?_ _)); exact BK435.out⟩, ⟨by (with_reducible repeat (first | refine blk_drewN ?_ _ | refine blk_drew ?_ | refine blk_alloc ?_ _)); exact BK436.out⟩, ⟨zq3⟩⟩
  rw [if_neg c12] at H
  have c12b0 : decide (((rdOf ByteArray.empty t437 0).size : Int) < 2) = false := decide_eq_false c12
  have c12b1 : decide ((rdOf ByteArray.empty t437 0).size < 2) = false := decide_eq_false (by omega)
  clear c12
  by_cases c14 : 2 < (t437.length : Int)
  case neg =>
   rw [if_neg c14] at H
   exact absurd H (by simp)
  rw [if_pos c14] at H
  have c14b0 : decide (2 < (t437.length : Int)) = true := decide_eq_true c14
  have c14b1 : decide (2 < t437.length) = true := decide_eq_true (by omega)
  clear c14
  by_cases c15 : ((rdOf ByteArray.empty t437 2).size : Int) < 2
  case pos =>
   rw [if_pos c15] at H
   have c15b0 : decide (((rdOf ByteArray.empty t437 2).size : Int) < 2) = true := decide_eq_true c15
   have c15b1 : decide ((rdOf ByteArray.empty t437 2).size < 2) = true := decide_eq_true (by omega)
   clear c15
   have H' := Aside0.mk H
   clear H
   obtain ⟨Ao16, co16, eo16⟩ := Kd.R_slice HO439.out
   subst eo16
   have p440 : 0 ≤ (0 : Int) := (by omega)
   have q440 : 0 < (t437.length : Int) := of_decide_eq_true zq6
   obtain ⟨ad440, e440, hx440_0⟩ := Kd.at_string (Kd.R_reads' HO439.out).2.2 0 p440 q440
   cases e440
   have qi440 : (0 < t437.length) = True := eq_true (by omega)
   (try rw [show ((0 : Int)).toNat = 0 from rfl] at hx440_0)
   (try rw [Addr.add_zero'] at hx440_0)
   replace p440 := eq_true p440
   replace q440 := eq_true q440
   have p441 : 0 ≤ (2 : Int) := (by omega)
   have q441 : 2 < (t437.length : Int) := of_decide_eq_true zq6
   obtain ⟨ad441, e441, hx441_0⟩ := Kd.at_string (Kd.R_reads' HO439.out).2.2 2 p441 q441
   obtain rfl : ad440 = ad441 := (by injection e441)
   (try simp only [show (2 : Int).toNat = 2 from rfl, Nat.reduceMul, Nat.reduceEqDiff, Go.Addr.add, ↓reduceIte] at hx441_0)
   have qi441 : (2 < t437.length) = True := eq_true (by omega)
   (try rw [show ((2 : Int)).toNat = 2 from rfl] at hx441_0)
   replace p441 := eq_true p441
   replace q441 := eq_true q441
   go_wp2
   go_meet
   case rel => exact ⟨_, (true), (by first | rfl | (simp; done) | (simp [*]; done)), H', ⟨by first | omega | exact Nat.le_refl _⟩, ⟨zqR HO439.out⟩, ⟨by (with_reducible repeat (first | refine blk_drewN ?_ _ | refine blk_drew ?_ | refine blk_alloc ?_ _)); exact BK435.out⟩, ⟨by (with_reducible repeat (first | refine blk_drewN ?_ _ | refine blk_drew ?_ | refine blk_alloc ?_ _)); exact BK436.out⟩, ⟨zq3⟩⟩
  rw [if_neg c15] at H
  have c15b0 : decide (((rdOf ByteArray.empty t437 2).size : Int) < 2) = false := decide_eq_false c15
  have c15b1 : decide ((rdOf ByteArray.empty t437 2).size < 2) = false := decide_eq_false (by omega)
  clear c15
  by_cases c17 : 4 < (t437.length : Int)
  case neg =>
   rw [if_neg c17] at H
   exact absurd H (by simp)
  rw [if_pos c17] at H
  have c17b0 : decide (4 < (t437.length : Int)) = true := decide_eq_true c17
  have c17b1 : decide (4 < t437.length) = true := decide_eq_true (by omega)
  clear c17
  have H' := Aside0.mk H
  clear H
  obtain ⟨Ao18, co18, eo18⟩ := Kd.R_slice HO439.out
  subst eo18
  have p440 : 0 ≤ (0 : Int) := (by omega)
  have q440 : 0 < (t437.length : Int) := of_decide_eq_true zq6
  obtain ⟨ad440, e440, hx440_0⟩ := Kd.at_string (Kd.R_reads' HO439.out).2.2 0 p440 q440
  cases e440
  have qi440 : (0 < t437.length) = True := eq_true (by omega)
  (try rw [show ((0 : Int)).toNat = 0 from rfl] at hx440_0)
  (try rw [Addr.add_zero'] at hx440_0)
  replace p440 := eq_true p440
  replace q440 := eq_true q440
  have p441 : 0 ≤ (2 : Int) := (by omega)
  have q441 : 2 < (t437.length : Int) := of_decide_eq_true zq6
  obtain ⟨ad441, e441, hx441_0⟩ := Kd.at_string (Kd.R_reads' HO439.out).2.2 2 p441 q441
  obtain rfl : ad440 = ad441 := (by injection e441)
  (try simp only [show (2 : Int).toNat = 2 from rfl, Nat.reduceMul, Nat.reduceEqDiff, Go.Addr.add, ↓reduceIte] at hx441_0)
  have qi441 : (2 < t437.length) = True := eq_true (by omega)
  (try rw [show ((2 : Int)).toNat = 2 from rfl] at hx441_0)
  replace p441 := eq_true p441
  replace q441 := eq_true q441
  have p442 : 0 ≤ (4 : Int) := (by omega)
  have q442 : 4 < (t437.length : Int) := of_decide_eq_true zq6
  obtain ⟨ad442, e442, hx442_0⟩ := Kd.at_string (Kd.R_reads' HO439.out).2.2 4 p442 q442
  obtain rfl : ad440 = ad442 := (by injection e442)
  (try simp only [show (4 : Int).toNat = 4 from rfl, Nat.reduceMul, Nat.reduceEqDiff, Go.Addr.add, ↓reduceIte] at hx442_0)
  have qi442 : (4 < t437.length) = True := eq_true (by omega)
  (try rw [show ((4 : Int)).toNat = 4 from rfl] at hx442_0)
  replace p442 := eq_true p442
  replace q442 := eq_true q442
  go_wp2
  go_meet
  case rel => exact ⟨_, (decide (((rdOf ByteArray.empty t437 4).size : Int) < 2)), (by first | rfl | (simp; done) | (simp [*]; done)), H', ⟨by first | omega | exact Nat.le_refl _⟩, ⟨zqR HO439.out⟩, ⟨by (with_reducible repeat (first | refine blk_drewN ?_ _ | refine blk_drew ?_ | refine blk_alloc ?_ _)); exact BK435.out⟩, ⟨by (with_reducible repeat (first | refine blk_drewN ?_ _ | refine blk_drew ?_ | refine blk_alloc ?_ _)); exact BK436.out⟩, ⟨zq3⟩⟩
 clear HC3
 try clear c1
 try clear p2
 try clear c3
 try clear c4
 try clear p4
 try clear q4
 try clear hx4
 try clear qi4
 try clear c6
 try clear c9
 try clear c9b0
 try clear c9b1
 try clear c10
 try clear c10b0
 try clear c10b1
 try clear c11
 try clear c11b0
 try clear c11b1
 try clear c12
 try clear c12b0
 try clear c12b1
 try clear c14
 try clear c14b0
 try clear c14b1
 try clear c15
 try clear c15b0
 try clear c15b1
 try clear c17
 try clear c17b0
 try clear c17b1
 try clear hcz7_0
 try clear hcz7_1
 try clear hcz7_2
 try clear hcz7_3
 try clear hcz7_4
 try clear hcz7_5
 try clear hfz7_0
 try clear hfz7_1
 try clear hfz7_2
 try clear hfz7_3
 try clear hfz7_4
 try clear hfz7_5
 try clear hx440_0
 try clear hx441_0
 try clear hx442_0
 try clear p440
 try clear p441
 try clear p442
 try clear q440
 try clear q441
 try clear q442
 obtain ⟨kq, x47_2, rfl, HA, HJ2, HO_5, BK435, BK436, HB⟩ := hcut
 cases kq with
 | zero => exact absurd HA.out (by simp [spec_l17Parse.j0])
 | succ kj2 =>
  have H := HA.out
  clear HA
  simp only [spec_l17Parse.j0] at H
  by_cases c20 : x47_2 = true
  case pos =>
   subst c20
   have H1 : (some (0, 0, 0, 0, 0, 0, false)) = some (r1, r2, r3, r4, r5, r6, r7) := by rw [if_pos rfl] at H; exact H
   clear H
   have H := H1
   clear H1
   simp only [Option.some.injEq, Prod.mk.injEq] at H
   obtain ⟨rfl, rfl, rfl, rfl, rfl, rfl, rfl⟩ := H
   have hnb21 := NB436_435.out
   have hnc21 := NB435_436.out
   obtain ⟨hcz22_0, hcz22_1, hcz22_2, hcz22_3, hcz22_4, hcz22_5, hfz22_0, hfz22_1, hfz22_2, hfz22_3, hfz22_4, hfz22_5⟩ := bz6 BK436.out
   obtain ⟨hcz23_0, hcz23_1, hcz23_2, hcz23_3, hcz23_4, hcz23_5, hfz23_0, hfz23_1, hfz23_2, hfz23_3, hfz23_4, hfz23_5⟩ := bz6 BK435.out
   go_wp2
   refine bodyPost_ret (results_ct rfl _ _ gb435 23 #[.int .i64 0, .int .i64 0, .int .i64 0, .int .i64 0, .int .i64 0, .int .i64 0] (0, 0) _ rfl zq9 Tryd.underlying23 rfl (by kernel_rfl)) rfl ?_
   exact ⟨zqE, zq3⟩
  replace c20 := Bool.eq_false_iff.mpr c20
  subst c20
  have H1 : (if 6 < (t437.length : Int) then ((spec_l1Split.f kj2 (rdOf ByteArray.empty t437 6) 45).bind fun t444 => (if (t444.length : Int) = 2 then (if 0 < (t437.length : Int) then (if 0 ≤ (wrap64 (((rdOf ByteArray.empty t437 0).size : Int) - 1)) then (if (wrap64 (((rdOf ByteArray.empty t437 0).size : Int) - 1)) ≤ ((rdOf ByteArray.empty t437 0).size : Int) then ((spec_l1Read.f kj2 ((rdOf ByteArray.empty t437 0).extract 0 ((wrap64 (((rdOf ByteArray.empty t437 0).size : Int) - 1)) : Int).toNat)).bind fun bt449 => (if 4 < (t437.length : Int) then (if 0 ≤ (wrap64 (((rdOf ByteArray.empty t437 4).size : Int) - 1)) then (if (wrap64 (((rdOf ByteArray.empty t437 4).size : Int) - 1)) ≤ ((rdOf ByteArray.empty t437 4).size : Int) then ((spec_l1Read.f kj2 ((rdOf ByteArray.empty t437 4).extract 0 ((wrap64 (((rdOf ByteArray.empty t437 4).size : Int) - 1)) : Int).toNat)).bind fun bt453 => (if 0 < (t444.length : Int) then ((spec_l1Read.f kj2 (rdOf ByteArray.empty t444 0)).bind fun bt456 => (if 1 < (t444.length : Int) then ((spec_l1Read.f kj2 (rdOf ByteArray.empty t444 1)).bind fun bt459 => ((spec_l17Topics.f).bind fun t461 => (if 2 < (t437.length : Int) then (if 0 ≤ (wrap64 (((rdOf ByteArray.empty t437 2).size : Int) - 1)) then (if (wrap64 (((rdOf ByteArray.empty t437 2).size : Int) - 1)) ≤ ((rdOf ByteArray.empty t437 2).size : Int) then ((spec_l17Index.f kj2 t461 ((rdOf ByteArray.empty t437 2).extract 0 ((wrap64 (((rdOf ByteArray.empty t437 2).size : Int) - 1)) : Int).toNat)).bind fun t466 => ((spec_l17Levels.f).bind fun t467 => (if 1 < (t437.length : Int) then ((spec_l17Index.f kj2 t467 (rdOf ByteArray.empty t437 1)).bind fun t471 => (if bt449.2 = true then (if bt453.2 = true then (if bt456.2 = true then (if bt459.2 = true then ((spec_l14Good.f bt449.1 t466 t471 bt453.1 bt456.1 bt459.1).bind fun t473 => (if t473 = true then ((spec_l17Line.f kj2 bt449.1 t466 t471 bt453.1 bt456.1 bt459.1).bind fun t474 => (spec_l17Parse.j1 kj2 (t474.toList != a0.toList) 0 0 0 0 0 0 bt449.1 t466 t471 bt453.1 bt456.1 bt459.1)) else (spec_l17Parse.j1 kj2 true 0 0 0 0 0 0 bt449.1 t466 t471 bt453.1 bt456.1 bt459.1))) else (spec_l17Parse.j1 kj2 true 0 0 0 0 0 0 bt449.1 t466 t471 bt453.1 bt456.1 bt459.1)) else (spec_l17Parse.j1 kj2 true 0 0 0 0 0 0 bt449.1 t466 t471 bt453.1 bt456.1 bt459.1)) else (spec_l17Parse.j1 kj2 true 0 0 0 0 0 0 bt449.1 t466 t471 bt453.1 bt456.1 bt459.1)) else (spec_l17Parse.j1 kj2 true 0 0 0 0 0 0 bt449.1 t466 t471 bt453.1 bt456.1 bt459.1))) else (none)))) else (none)) else (none)) else (none)))) else (none))) else (none))) else (none)) else (none)) else (none))) else (none)) else (none)) else (none)) else (some (0, 0, 0, 0, 0, 0, false)))) else (none)) = some (r1, r2, r3, r4, r5, r6, r7) := by rw [if_neg (show ¬ (false = true) by decide)] at H; exact H
  clear H
  have H := H1
  clear H1
  by_cases c24 : 6 < (t437.length : Int)
  case neg =>
   rw [if_neg c24] at H
   exact absurd H (by simp)
  rw [if_pos c24] at H
  have c24b0 : decide (6 < (t437.length : Int)) = true := decide_eq_true c24
  have c24b1 : decide (6 < t437.length) = true := decide_eq_true (by omega)
  clear c24
  replace H := Option.bind_eq_some_iff.mp H
  obtain ⟨t444, A250, H⟩ := H
  replace H : (if (t444.length : Int) = 2 then (if 0 < (t437.length : Int) then (if 0 ≤ (wrap64 (((rdOf ByteArray.empty t437 0).size : Int) - 1)) then (if (wrap64 (((rdOf ByteArray.empty t437 0).size : Int) - 1)) ≤ ((rdOf ByteArray.empty t437 0).size : Int) then ((spec_l1Read.f kj2 ((rdOf ByteArray.empty t437 0).extract 0 ((wrap64 (((rdOf ByteArray.empty t437 0).size : Int) - 1)) : Int).toNat)).bind fun bt449 => (if 4 < (t437.length : Int) then (if 0 ≤ (wrap64 (((rdOf ByteArray.empty t437 4).size : Int) - 1)) then (if (wrap64 (((rdOf ByteArray.empty t437 4).size : Int) - 1)) ≤ ((rdOf ByteArray.empty t437 4).size : Int) then ((spec_l1Read.f kj2 ((rdOf ByteArray.empty t437 4).extract 0 ((wrap64 (((rdOf ByteArray.empty t437 4).size : Int) - 1)) : Int).toNat)).bind fun bt453 => (if 0 < (t444.length : Int) then ((spec_l1Read.f kj2 (rdOf ByteArray.empty t444 0)).bind fun bt456 => (if 1 < (t444.length : Int) then ((spec_l1Read.f kj2 (rdOf ByteArray.empty t444 1)).bind fun bt459 => ((spec_l17Topics.f).bind fun t461 => (if 2 < (t437.length : Int) then (if 0 ≤ (wrap64 (((rdOf ByteArray.empty t437 2).size : Int) - 1)) then (if (wrap64 (((rdOf ByteArray.empty t437 2).size : Int) - 1)) ≤ ((rdOf ByteArray.empty t437 2).size : Int) then ((spec_l17Index.f kj2 t461 ((rdOf ByteArray.empty t437 2).extract 0 ((wrap64 (((rdOf ByteArray.empty t437 2).size : Int) - 1)) : Int).toNat)).bind fun t466 => ((spec_l17Levels.f).bind fun t467 => (if 1 < (t437.length : Int) then ((spec_l17Index.f kj2 t467 (rdOf ByteArray.empty t437 1)).bind fun t471 => (if bt449.2 = true then (if bt453.2 = true then (if bt456.2 = true then (if bt459.2 = true then ((spec_l14Good.f bt449.1 t466 t471 bt453.1 bt456.1 bt459.1).bind fun t473 => (if t473 = true then ((spec_l17Line.f kj2 bt449.1 t466 t471 bt453.1 bt456.1 bt459.1).bind fun t474 => (spec_l17Parse.j1 kj2 (t474.toList != a0.toList) 0 0 0 0 0 0 bt449.1 t466 t471 bt453.1 bt456.1 bt459.1)) else (spec_l17Parse.j1 kj2 true 0 0 0 0 0 0 bt449.1 t466 t471 bt453.1 bt456.1 bt459.1))) else (spec_l17Parse.j1 kj2 true 0 0 0 0 0 0 bt449.1 t466 t471 bt453.1 bt456.1 bt459.1)) else (spec_l17Parse.j1 kj2 true 0 0 0 0 0 0 bt449.1 t466 t471 bt453.1 bt456.1 bt459.1)) else (spec_l17Parse.j1 kj2 true 0 0 0 0 0 0 bt449.1 t466 t471 bt453.1 bt456.1 bt459.1)) else (spec_l17Parse.j1 kj2 true 0 0 0 0 0 0 bt449.1 t466 t471 bt453.1 bt456.1 bt459.1))) else (none)))) else (none)) else (none)) else (none)))) else (none))) else (none))) else (none)) else (none)) else (none))) else (none)) else (none)) else (none)) else (some (0, 0, 0, 0, 0, 0, false))) = some (r1, r2, r3, r4, r5, r6, r7) := H
  have A25 := Aside0.mk A250
  clear A250
  by_cases c26 : (t444.length : Int) = 2
  case neg =>
   rw [if_neg c26] at H
   have c26b0 : ((t444.length : Int) == 2) = false := beq_eq_false_iff_ne.mpr c26
   have c26b1 : ((t444.length : Int) != 2) = true := bne_iff_ne.mpr c26
   simp only [Option.some.injEq, Prod.mk.injEq] at H
   obtain ⟨rfl, rfl, rfl, rfl, rfl, rfl, rfl⟩ := H
   obtain ⟨Ao101, co101, eo101⟩ := Kd.R_slice HO_5.out
   subst eo101
   have p443 : 0 ≤ (6 : Int) := (by omega)
   have q443 : 6 < (t437.length : Int) := of_decide_eq_true zq6
   obtain ⟨ad443, e443, hx443_0⟩ := Kd.at_string (Kd.R_reads' HO_5.out).2.2 6 p443 q443
   cases e443
   (try simp only [show (6 : Int).toNat = 6 from rfl, Nat.reduceMul, Nat.reduceEqDiff, Go.Addr.add, ↓reduceIte] at hx443_0)
   have qi443 : (6 < t437.length) = True := eq_true (by omega)
   (try rw [show ((6 : Int)).toNat = 6 from rfl] at hx443_0)
   replace p443 := eq_true p443
   replace q443 := eq_true q443
   go_wp2_with (first | ((with_reducible refine gate_callee (f := 34) rfl ?_); refine goesL_ (some 52) rfl rfl Tryd.func34 (by kernel_rfl) rfl #[.string (rdOf ByteArray.empty t437 6), .int .u8 45] rfl zq2 ?_; (with_reducible refine (spec_l1Split.calls kj2 (rdOf ByteArray.empty t437 6) 45 t444 _ A25.out).mono ?_); rintro e w102 ⟨v445, rfl, ho0, hb⟩; refine ⟨_, rfl, ?_⟩; have n0_ := Aside0.mk (Kd.R_elder' (zqR HO_5.out) (Kd.R_base ho0) hb); have n1_ := Aside0.mk (Kd.R_lower (Kd.R_new' ho0 (Kd.R_lt (zqR HO_5.out))) (below_size zq3)); have n2_ := Aside0.mk (blk_below (g := gb435) (o := .cells #[.int .i64 0, .int .i64 0, .int .i64 0, .int .i64 0, .int .i64 0, .int .i64 0] 23 (0, 0)) (zqK BK435.out) hb); have n3_ := Aside0.mk (blk_below (g := gb436) (o := .cells #[.int .i64 0, .int .i64 0, .int .i64 0, .int .i64 0, .int .i64 0, .int .i64 0] 23 (0, 0)) (zqK BK436.out) hb); have n4_ := Aside0.mk (below_step zq3 hb); clear HO_5; clear BK435; clear BK436; clear HB; have HO_5 := n0_; have HO446 := n1_; have BK435 := n2_; have BK436 := n3_; have HB := n4_; clear n0_ n1_ n2_ n3_ n4_; (try clear hb); (try clear hb2); (try clear hk); (try clear hi); (try clear ho0); obtain ⟨Ao103, co103, eo103⟩ := Kd.R_slice HO446.out; subst eo103; have hnb104 := NB436_435.out; have hnc104 := NB435_436.out; obtain ⟨hcz105_0, hcz105_1, hcz105_2, hcz105_3, hcz105_4, hcz105_5, hfz105_0, hfz105_1, hfz105_2, hfz105_3, hfz105_4, hfz105_5⟩ := bz6 BK436.out; obtain ⟨hcz106_0, hcz106_1, hcz106_2, hcz106_3, hcz106_4, hcz106_5, hfz106_0, hfz106_1, hfz106_2, hfz106_3, hfz106_4, hfz106_5⟩ := bz6 BK435.out))
   refine bodyPost_ret (results_ct rfl _ _ gb435 23 #[.int .i64 0, .int .i64 0, .int .i64 0, .int .i64 0, .int .i64 0, .int .i64 0] (0, 0) _ rfl zq9 Tryd.underlying23 rfl (by kernel_rfl)) rfl ?_
   exact ⟨zqE, zq3⟩
  rw [if_pos c26] at H
  have c26b0 : ((t444.length : Int) == 2) = true := beq_iff_eq.mpr c26
  have c26b1 : ((t444.length : Int) != 2) = false := bne_eq_false_iff_eq.mpr c26
  clear c26
  by_cases c27 : 0 < (t437.length : Int)
  case neg =>
   rw [if_neg c27] at H
   exact absurd H (by simp)
  rw [if_pos c27] at H
  have c27b0 : decide (0 < (t437.length : Int)) = true := decide_eq_true c27
  have c27b1 : decide (0 < t437.length) = true := decide_eq_true (by omega)
  clear c27
  obtain ⟨ji28, hji28⟩ : ∃ j_ : Int, (wrap64 (((rdOf ByteArray.empty t437 0).size : Int) - 1)) = j_ := ⟨_, rfl⟩
  replace H : (if 0 ≤ (ji28) then (if (ji28) ≤ ((rdOf ByteArray.empty t437 0).size : Int) then ((spec_l1Read.f kj2 ((rdOf ByteArray.empty t437 0).extract 0 ((ji28) : Int).toNat)).bind fun bt449 => (if 4 < (t437.length : Int) then (if 0 ≤ (wrap64 (((rdOf ByteArray.empty t437 4).size : Int) - 1)) then (if (wrap64 (((rdOf ByteArray.empty t437 4).size : Int) - 1)) ≤ ((rdOf ByteArray.empty t437 4).size : Int) then ((spec_l1Read.f kj2 ((rdOf ByteArray.empty t437 4).extract 0 ((wrap64 (((rdOf ByteArray.empty t437 4).size : Int) - 1)) : Int).toNat)).bind fun bt453 => (if 0 < (t444.length : Int) then ((spec_l1Read.f kj2 (rdOf ByteArray.empty t444 0)).bind fun bt456 => (if 1 < (t444.length : Int) then ((spec_l1Read.f kj2 (rdOf ByteArray.empty t444 1)).bind fun bt459 => ((spec_l17Topics.f).bind fun t461 => (if 2 < (t437.length : Int) then (if 0 ≤ (wrap64 (((rdOf ByteArray.empty t437 2).size : Int) - 1)) then (if (wrap64 (((rdOf ByteArray.empty t437 2).size : Int) - 1)) ≤ ((rdOf ByteArray.empty t437 2).size : Int) then ((spec_l17Index.f kj2 t461 ((rdOf ByteArray.empty t437 2).extract 0 ((wrap64 (((rdOf ByteArray.empty t437 2).size : Int) - 1)) : Int).toNat)).bind fun t466 => ((spec_l17Levels.f).bind fun t467 => (if 1 < (t437.length : Int) then ((spec_l17Index.f kj2 t467 (rdOf ByteArray.empty t437 1)).bind fun t471 => (if bt449.2 = true then (if bt453.2 = true then (if bt456.2 = true then (if bt459.2 = true then ((spec_l14Good.f bt449.1 t466 t471 bt453.1 bt456.1 bt459.1).bind fun t473 => (if t473 = true then ((spec_l17Line.f kj2 bt449.1 t466 t471 bt453.1 bt456.1 bt459.1).bind fun t474 => (spec_l17Parse.j1 kj2 (t474.toList != a0.toList) 0 0 0 0 0 0 bt449.1 t466 t471 bt453.1 bt456.1 bt459.1)) else (spec_l17Parse.j1 kj2 true 0 0 0 0 0 0 bt449.1 t466 t471 bt453.1 bt456.1 bt459.1))) else (spec_l17Parse.j1 kj2 true 0 0 0 0 0 0 bt449.1 t466 t471 bt453.1 bt456.1 bt459.1)) else (spec_l17Parse.j1 kj2 true 0 0 0 0 0 0 bt449.1 t466 t471 bt453.1 bt456.1 bt459.1)) else (spec_l17Parse.j1 kj2 true 0 0 0 0 0 0 bt449.1 t466 t471 bt453.1 bt456.1 bt459.1)) else (spec_l17Parse.j1 kj2 true 0 0 0 0 0 0 bt449.1 t466 t471 bt453.1 bt456.1 bt459.1))) else (none)))) else (none)) else (none)) else (none)))) else (none))) else (none))) else (none)) else (none)) else (none))) else (none)) else (none)) = some (r1, r2, r3, r4, r5, r6, r7) := by first | (rw [hji28] at H; exact H) | (simp only [hji28] at H ⊢; exact H)
  (try rw [hji28] at A25)
  have hji28w : (IntKind.i64.wrap (((rdOf ByteArray.empty t437 0).size : Int) - 1)) = ji28 := (i64_w _).trans hji28
  by_cases c29 : 0 ≤ (ji28)
  case neg =>
   rw [if_neg c29] at H
   exact absurd H (by simp)
  rw [if_pos c29] at H
  have c29b0 := eq_true c29
  have c29b1 : decide (0 ≤ (ji28)) = true := decide_eq_true c29
  clear c29
  by_cases c30 : (ji28) ≤ ((rdOf ByteArray.empty t437 0).size : Int)
  case neg =>
   rw [if_neg c30] at H
   exact absurd H (by simp)
  rw [if_pos c30] at H
  have c30b0 := eq_true c30
  have c30b1 : decide ((ji28) ≤ ((rdOf ByteArray.empty t437 0).size : Int)) = true := decide_eq_true c30
  clear c30
  replace H := Option.bind_eq_some_iff.mp H
  obtain ⟨⟨t449, t450⟩, A310, H⟩ := H
  replace H : (if 4 < (t437.length : Int) then (if 0 ≤ (wrap64 (((rdOf ByteArray.empty t437 4).size : Int) - 1)) then (if (wrap64 (((rdOf ByteArray.empty t437 4).size : Int) - 1)) ≤ ((rdOf ByteArray.empty t437 4).size : Int) then ((spec_l1Read.f kj2 ((rdOf ByteArray.empty t437 4).extract 0 ((wrap64 (((rdOf ByteArray.empty t437 4).size : Int) - 1)) : Int).toNat)).bind fun bt453 => (if 0 < (t444.length : Int) then ((spec_l1Read.f kj2 (rdOf ByteArray.empty t444 0)).bind fun bt456 => (if 1 < (t444.length : Int) then ((spec_l1Read.f kj2 (rdOf ByteArray.empty t444 1)).bind fun bt459 => ((spec_l17Topics.f).bind fun t461 => (if 2 < (t437.length : Int) then (if 0 ≤ (wrap64 (((rdOf ByteArray.empty t437 2).size : Int) - 1)) then (if (wrap64 (((rdOf ByteArray.empty t437 2).size : Int) - 1)) ≤ ((rdOf ByteArray.empty t437 2).size : Int) then ((spec_l17Index.f kj2 t461 ((rdOf ByteArray.empty t437 2).extract 0 ((wrap64 (((rdOf ByteArray.empty t437 2).size : Int) - 1)) : Int).toNat)).bind fun t466 => ((spec_l17Levels.f).bind fun t467 => (if 1 < (t437.length : Int) then ((spec_l17Index.f kj2 t467 (rdOf ByteArray.empty t437 1)).bind fun t471 => (if t450 = true then (if bt453.2 = true then (if bt456.2 = true then (if bt459.2 = true then ((spec_l14Good.f t449 t466 t471 bt453.1 bt456.1 bt459.1).bind fun t473 => (if t473 = true then ((spec_l17Line.f kj2 t449 t466 t471 bt453.1 bt456.1 bt459.1).bind fun t474 => (spec_l17Parse.j1 kj2 (t474.toList != a0.toList) 0 0 0 0 0 0 t449 t466 t471 bt453.1 bt456.1 bt459.1)) else (spec_l17Parse.j1 kj2 true 0 0 0 0 0 0 t449 t466 t471 bt453.1 bt456.1 bt459.1))) else (spec_l17Parse.j1 kj2 true 0 0 0 0 0 0 t449 t466 t471 bt453.1 bt456.1 bt459.1)) else (spec_l17Parse.j1 kj2 true 0 0 0 0 0 0 t449 t466 t471 bt453.1 bt456.1 bt459.1)) else (spec_l17Parse.j1 kj2 true 0 0 0 0 0 0 t449 t466 t471 bt453.1 bt456.1 bt459.1)) else (spec_l17Parse.j1 kj2 true 0 0 0 0 0 0 t449 t466 t471 bt453.1 bt456.1 bt459.1))) else (none)))) else (none)) else (none)) else (none)))) else (none))) else (none))) else (none)) else (none)) else (none)) = some (r1, r2, r3, r4, r5, r6, r7) := H
  have A31 := Aside0.mk A310
  clear A310
  by_cases c32 : 4 < (t437.length : Int)
  case neg =>
   rw [if_neg c32] at H
   exact absurd H (by simp)
  rw [if_pos c32] at H
  have c32b0 : decide (4 < (t437.length : Int)) = true := decide_eq_true c32
  have c32b1 : decide (4 < t437.length) = true := decide_eq_true (by omega)
  clear c32
  obtain ⟨ji33, hji33⟩ : ∃ j_ : Int, (wrap64 (((rdOf ByteArray.empty t437 4).size : Int) - 1)) = j_ := ⟨_, rfl⟩
  replace H : (if 0 ≤ (ji33) then (if (ji33) ≤ ((rdOf ByteArray.empty t437 4).size : Int) then ((spec_l1Read.f kj2 ((rdOf ByteArray.empty t437 4).extract 0 ((ji33) : Int).toNat)).bind fun bt453 => (if 0 < (t444.length : Int) then ((spec_l1Read.f kj2 (rdOf ByteArray.empty t444 0)).bind fun bt456 => (if 1 < (t444.length : Int) then ((spec_l1Read.f kj2 (rdOf ByteArray.empty t444 1)).bind fun bt459 => ((spec_l17Topics.f).bind fun t461 => (if 2 < (t437.length : Int) then (if 0 ≤ (wrap64 (((rdOf ByteArray.empty t437 2).size : Int) - 1)) then (if (wrap64 (((rdOf ByteArray.empty t437 2).size : Int) - 1)) ≤ ((rdOf ByteArray.empty t437 2).size : Int) then ((spec_l17Index.f kj2 t461 ((rdOf ByteArray.empty t437 2).extract 0 ((wrap64 (((rdOf ByteArray.empty t437 2).size : Int) - 1)) : Int).toNat)).bind fun t466 => ((spec_l17Levels.f).bind fun t467 => (if 1 < (t437.length : Int) then ((spec_l17Index.f kj2 t467 (rdOf ByteArray.empty t437 1)).bind fun t471 => (if t450 = true then (if bt453.2 = true then (if bt456.2 = true then (if bt459.2 = true then ((spec_l14Good.f t449 t466 t471 bt453.1 bt456.1 bt459.1).bind fun t473 => (if t473 = true then ((spec_l17Line.f kj2 t449 t466 t471 bt453.1 bt456.1 bt459.1).bind fun t474 => (spec_l17Parse.j1 kj2 (t474.toList != a0.toList) 0 0 0 0 0 0 t449 t466 t471 bt453.1 bt456.1 bt459.1)) else (spec_l17Parse.j1 kj2 true 0 0 0 0 0 0 t449 t466 t471 bt453.1 bt456.1 bt459.1))) else (spec_l17Parse.j1 kj2 true 0 0 0 0 0 0 t449 t466 t471 bt453.1 bt456.1 bt459.1)) else (spec_l17Parse.j1 kj2 true 0 0 0 0 0 0 t449 t466 t471 bt453.1 bt456.1 bt459.1)) else (spec_l17Parse.j1 kj2 true 0 0 0 0 0 0 t449 t466 t471 bt453.1 bt456.1 bt459.1)) else (spec_l17Parse.j1 kj2 true 0 0 0 0 0 0 t449 t466 t471 bt453.1 bt456.1 bt459.1))) else (none)))) else (none)) else (none)) else (none)))) else (none))) else (none))) else (none)) else (none)) = some (r1, r2, r3, r4, r5, r6, r7) := by first | (rw [hji33] at H; exact H) | (simp only [hji33] at H ⊢; exact H)
  (try rw [hji33] at A25)
  (try rw [hji33] at A31)
  have hji33w : (IntKind.i64.wrap (((rdOf ByteArray.empty t437 4).size : Int) - 1)) = ji33 := (i64_w _).trans hji33
  by_cases c34 : 0 ≤ (ji33)
  case neg =>
   rw [if_neg c34] at H
   exact absurd H (by simp)
  rw [if_pos c34] at H
  have c34b0 := eq_true c34
  have c34b1 : decide (0 ≤ (ji33)) = true := decide_eq_true c34
  clear c34
  by_cases c35 : (ji33) ≤ ((rdOf ByteArray.empty t437 4).size : Int)
  case neg =>
   rw [if_neg c35] at H
   exact absurd H (by simp)
  rw [if_pos c35] at H
  have c35b0 := eq_true c35
  have c35b1 : decide ((ji33) ≤ ((rdOf ByteArray.empty t437 4).size : Int)) = true := decide_eq_true c35
  clear c35
  replace H := Option.bind_eq_some_iff.mp H
  obtain ⟨⟨t453, t454⟩, A360, H⟩ := H
  replace H : (if 0 < (t444.length : Int) then ((spec_l1Read.f kj2 (rdOf ByteArray.empty t444 0)).bind fun bt456 => (if 1 < (t444.length : Int) then ((spec_l1Read.f kj2 (rdOf ByteArray.empty t444 1)).bind fun bt459 => ((spec_l17Topics.f).bind fun t461 => (if 2 < (t437.length : Int) then (if 0 ≤ (wrap64 (((rdOf ByteArray.empty t437 2).size : Int) - 1)) then (if (wrap64 (((rdOf ByteArray.empty t437 2).size : Int) - 1)) ≤ ((rdOf ByteArray.empty t437 2).size : Int) then ((spec_l17Index.f kj2 t461 ((rdOf ByteArray.empty t437 2).extract 0 ((wrap64 (((rdOf ByteArray.empty t437 2).size : Int) - 1)) : Int).toNat)).bind fun t466 => ((spec_l17Levels.f).bind fun t467 => (if 1 < (t437.length : Int) then ((spec_l17Index.f kj2 t467 (rdOf ByteArray.empty t437 1)).bind fun t471 => (if t450 = true then (if t454 = true then (if bt456.2 = true then (if bt459.2 = true then ((spec_l14Good.f t449 t466 t471 t453 bt456.1 bt459.1).bind fun t473 => (if t473 = true then ((spec_l17Line.f kj2 t449 t466 t471 t453 bt456.1 bt459.1).bind fun t474 => (spec_l17Parse.j1 kj2 (t474.toList != a0.toList) 0 0 0 0 0 0 t449 t466 t471 t453 bt456.1 bt459.1)) else (spec_l17Parse.j1 kj2 true 0 0 0 0 0 0 t449 t466 t471 t453 bt456.1 bt459.1))) else (spec_l17Parse.j1 kj2 true 0 0 0 0 0 0 t449 t466 t471 t453 bt456.1 bt459.1)) else (spec_l17Parse.j1 kj2 true 0 0 0 0 0 0 t449 t466 t471 t453 bt456.1 bt459.1)) else (spec_l17Parse.j1 kj2 true 0 0 0 0 0 0 t449 t466 t471 t453 bt456.1 bt459.1)) else (spec_l17Parse.j1 kj2 true 0 0 0 0 0 0 t449 t466 t471 t453 bt456.1 bt459.1))) else (none)))) else (none)) else (none)) else (none)))) else (none))) else (none)) = some (r1, r2, r3, r4, r5, r6, r7) := H
  have A36 := Aside0.mk A360
  clear A360
  by_cases c37 : 0 < (t444.length : Int)
  case neg =>
   rw [if_neg c37] at H
   exact absurd H (by simp)
  rw [if_pos c37] at H
  have c37b0 : decide (0 < (t444.length : Int)) = true := decide_eq_true c37
  have c37b1 : decide (0 < t444.length) = true := decide_eq_true (by omega)
  clear c37
  replace H := Option.bind_eq_some_iff.mp H
  obtain ⟨⟨t456, t457⟩, A380, H⟩ := H
  replace H : (if 1 < (t444.length : Int) then ((spec_l1Read.f kj2 (rdOf ByteArray.empty t444 1)).bind fun bt459 => ((spec_l17Topics.f).bind fun t461 => (if 2 < (t437.length : Int) then (if 0 ≤ (wrap64 (((rdOf ByteArray.empty t437 2).size : Int) - 1)) then (if (wrap64 (((rdOf ByteArray.empty t437 2).size : Int) - 1)) ≤ ((rdOf ByteArray.empty t437 2).size : Int) then ((spec_l17Index.f kj2 t461 ((rdOf ByteArray.empty t437 2).extract 0 ((wrap64 (((rdOf ByteArray.empty t437 2).size : Int) - 1)) : Int).toNat)).bind fun t466 => ((spec_l17Levels.f).bind fun t467 => (if 1 < (t437.length : Int) then ((spec_l17Index.f kj2 t467 (rdOf ByteArray.empty t437 1)).bind fun t471 => (if t450 = true then (if t454 = true then (if t457 = true then (if bt459.2 = true then ((spec_l14Good.f t449 t466 t471 t453 t456 bt459.1).bind fun t473 => (if t473 = true then ((spec_l17Line.f kj2 t449 t466 t471 t453 t456 bt459.1).bind fun t474 => (spec_l17Parse.j1 kj2 (t474.toList != a0.toList) 0 0 0 0 0 0 t449 t466 t471 t453 t456 bt459.1)) else (spec_l17Parse.j1 kj2 true 0 0 0 0 0 0 t449 t466 t471 t453 t456 bt459.1))) else (spec_l17Parse.j1 kj2 true 0 0 0 0 0 0 t449 t466 t471 t453 t456 bt459.1)) else (spec_l17Parse.j1 kj2 true 0 0 0 0 0 0 t449 t466 t471 t453 t456 bt459.1)) else (spec_l17Parse.j1 kj2 true 0 0 0 0 0 0 t449 t466 t471 t453 t456 bt459.1)) else (spec_l17Parse.j1 kj2 true 0 0 0 0 0 0 t449 t466 t471 t453 t456 bt459.1))) else (none)))) else (none)) else (none)) else (none)))) else (none)) = some (r1, r2, r3, r4, r5, r6, r7) := H
  have A38 := Aside0.mk A380
  clear A380
  by_cases c39 : 1 < (t444.length : Int)
  case neg =>
   rw [if_neg c39] at H
   exact absurd H (by simp)
  rw [if_pos c39] at H
  have c39b0 : decide (1 < (t444.length : Int)) = true := decide_eq_true c39
  have c39b1 : decide (1 < t444.length) = true := decide_eq_true (by omega)
  clear c39
  replace H := Option.bind_eq_some_iff.mp H
  obtain ⟨⟨t459, t460⟩, A400, H⟩ := H
  replace H : ((spec_l17Topics.f).bind fun t461 => (if 2 < (t437.length : Int) then (if 0 ≤ (wrap64 (((rdOf ByteArray.empty t437 2).size : Int) - 1)) then (if (wrap64 (((rdOf ByteArray.empty t437 2).size : Int) - 1)) ≤ ((rdOf ByteArray.empty t437 2).size : Int) then ((spec_l17Index.f kj2 t461 ((rdOf ByteArray.empty t437 2).extract 0 ((wrap64 (((rdOf ByteArray.empty t437 2).size : Int) - 1)) : Int).toNat)).bind fun t466 => ((spec_l17Levels.f).bind fun t467 => (if 1 < (t437.length : Int) then ((spec_l17Index.f kj2 t467 (rdOf ByteArray.empty t437 1)).bind fun t471 => (if t450 = true then (if t454 = true then (if t457 = true then (if t460 = true then ((spec_l14Good.f t449 t466 t471 t453 t456 t459).bind fun t473 => (if t473 = true then ((spec_l17Line.f kj2 t449 t466 t471 t453 t456 t459).bind fun t474 => (spec_l17Parse.j1 kj2 (t474.toList != a0.toList) 0 0 0 0 0 0 t449 t466 t471 t453 t456 t459)) else (spec_l17Parse.j1 kj2 true 0 0 0 0 0 0 t449 t466 t471 t453 t456 t459))) else (spec_l17Parse.j1 kj2 true 0 0 0 0 0 0 t449 t466 t471 t453 t456 t459)) else (spec_l17Parse.j1 kj2 true 0 0 0 0 0 0 t449 t466 t471 t453 t456 t459)) else (spec_l17Parse.j1 kj2 true 0 0 0 0 0 0 t449 t466 t471 t453 t456 t459)) else (spec_l17Parse.j1 kj2 true 0 0 0 0 0 0 t449 t466 t471 t453 t456 t459))) else (none)))) else (none)) else (none)) else (none))) = some (r1, r2, r3, r4, r5, r6, r7) := H
  have A40 := Aside0.mk A400
  clear A400
  replace H := Option.bind_eq_some_iff.mp H
  obtain ⟨t461, A410, H⟩ := H
  replace H : (if 2 < (t437.length : Int) then (if 0 ≤ (wrap64 (((rdOf ByteArray.empty t437 2).size : Int) - 1)) then (if (wrap64 (((rdOf ByteArray.empty t437 2).size : Int) - 1)) ≤ ((rdOf ByteArray.empty t437 2).size : Int) then ((spec_l17Index.f kj2 t461 ((rdOf ByteArray.empty t437 2).extract 0 ((wrap64 (((rdOf ByteArray.empty t437 2).size : Int) - 1)) : Int).toNat)).bind fun t466 => ((spec_l17Levels.f).bind fun t467 => (if 1 < (t437.length : Int) then ((spec_l17Index.f kj2 t467 (rdOf ByteArray.empty t437 1)).bind fun t471 => (if t450 = true then (if t454 = true then (if t457 = true then (if t460 = true then ((spec_l14Good.f t449 t466 t471 t453 t456 t459).bind fun t473 => (if t473 = true then ((spec_l17Line.f kj2 t449 t466 t471 t453 t456 t459).bind fun t474 => (spec_l17Parse.j1 kj2 (t474.toList != a0.toList) 0 0 0 0 0 0 t449 t466 t471 t453 t456 t459)) else (spec_l17Parse.j1 kj2 true 0 0 0 0 0 0 t449 t466 t471 t453 t456 t459))) else (spec_l17Parse.j1 kj2 true 0 0 0 0 0 0 t449 t466 t471 t453 t456 t459)) else (spec_l17Parse.j1 kj2 true 0 0 0 0 0 0 t449 t466 t471 t453 t456 t459)) else (spec_l17Parse.j1 kj2 true 0 0 0 0 0 0 t449 t466 t471 t453 t456 t459)) else (spec_l17Parse.j1 kj2 true 0 0 0 0 0 0 t449 t466 t471 t453 t456 t459))) else (none)))) else (none)) else (none)) else (none)) = some (r1, r2, r3, r4, r5, r6, r7) := H
  have A41 := Aside0.mk A410
  clear A410
  by_cases c42 : 2 < (t437.length : Int)
  case neg =>
   rw [if_neg c42] at H
   exact absurd H (by simp)
  rw [if_pos c42] at H
  have c42b0 : decide (2 < (t437.length : Int)) = true := decide_eq_true c42
  have c42b1 : decide (2 < t437.length) = true := decide_eq_true (by omega)
  clear c42
  obtain ⟨ji43, hji43⟩ : ∃ j_ : Int, (wrap64 (((rdOf ByteArray.empty t437 2).size : Int) - 1)) = j_ := ⟨_, rfl⟩
  replace H : (if 0 ≤ (ji43) then (if (ji43) ≤ ((rdOf ByteArray.empty t437 2).size : Int) then ((spec_l17Index.f kj2 t461 ((rdOf ByteArray.empty t437 2).extract 0 ((ji43) : Int).toNat)).bind fun t466 => ((spec_l17Levels.f).bind fun t467 => (if 1 < (t437.length : Int) then ((spec_l17Index.f kj2 t467 (rdOf ByteArray.empty t437 1)).bind fun t471 => (if t450 = true then (if t454 = true then (if t457 = true then (if t460 = true then ((spec_l14Good.f t449 t466 t471 t453 t456 t459).bind fun t473 => (if t473 = true then ((spec_l17Line.f kj2 t449 t466 t471 t453 t456 t459).bind fun t474 => (spec_l17Parse.j1 kj2 (t474.toList != a0.toList) 0 0 0 0 0 0 t449 t466 t471 t453 t456 t459)) else (spec_l17Parse.j1 kj2 true 0 0 0 0 0 0 t449 t466 t471 t453 t456 t459))) else (spec_l17Parse.j1 kj2 true 0 0 0 0 0 0 t449 t466 t471 t453 t456 t459)) else (spec_l17Parse.j1 kj2 true 0 0 0 0 0 0 t449 t466 t471 t453 t456 t459)) else (spec_l17Parse.j1 kj2 true 0 0 0 0 0 0 t449 t466 t471 t453 t456 t459)) else (spec_l17Parse.j1 kj2 true 0 0 0 0 0 0 t449 t466 t471 t453 t456 t459))) else (none)))) else (none)) else (none)) = some (r1, r2, r3, r4, r5, r6, r7) := by first | (rw [hji43] at H; exact H) | (simp only [hji43] at H ⊢; exact H)
  (try rw [hji43] at A25)
  (try rw [hji43] at A31)
  (try rw [hji43] at A36)
  (try rw [hji43] at A38)
  (try rw [hji43] at A40)
  (try rw [hji43] at A41)
  have hji43w : (IntKind.i64.wrap (((rdOf ByteArray.empty t437 2).size : Int) - 1)) = ji43 := (i64_w _).trans hji43
  by_cases c44 : 0 ≤ (ji43)
  case neg =>
   rw [if_neg c44] at H
   exact absurd H (by simp)
  rw [if_pos c44] at H
  have c44b0 := eq_true c44
  have c44b1 : decide (0 ≤ (ji43)) = true := decide_eq_true c44
  clear c44
  by_cases c45 : (ji43) ≤ ((rdOf ByteArray.empty t437 2).size : Int)
  case neg =>
   rw [if_neg c45] at H
   exact absurd H (by simp)
  rw [if_pos c45] at H
  have c45b0 := eq_true c45
  have c45b1 : decide ((ji43) ≤ ((rdOf ByteArray.empty t437 2).size : Int)) = true := decide_eq_true c45
  clear c45
  replace H := Option.bind_eq_some_iff.mp H
  obtain ⟨t466, A460, H⟩ := H
  replace H : ((spec_l17Levels.f).bind fun t467 => (if 1 < (t437.length : Int) then ((spec_l17Index.f kj2 t467 (rdOf ByteArray.empty t437 1)).bind fun t471 => (if t450 = true then (if t454 = true then (if t457 = true then (if t460 = true then ((spec_l14Good.f t449 t466 t471 t453 t456 t459).bind fun t473 => (if t473 = true then ((spec_l17Line.f kj2 t449 t466 t471 t453 t456 t459).bind fun t474 => (spec_l17Parse.j1 kj2 (t474.toList != a0.toList) 0 0 0 0 0 0 t449 t466 t471 t453 t456 t459)) else (spec_l17Parse.j1 kj2 true 0 0 0 0 0 0 t449 t466 t471 t453 t456 t459))) else (spec_l17Parse.j1 kj2 true 0 0 0 0 0 0 t449 t466 t471 t453 t456 t459)) else (spec_l17Parse.j1 kj2 true 0 0 0 0 0 0 t449 t466 t471 t453 t456 t459)) else (spec_l17Parse.j1 kj2 true 0 0 0 0 0 0 t449 t466 t471 t453 t456 t459)) else (spec_l17Parse.j1 kj2 true 0 0 0 0 0 0 t449 t466 t471 t453 t456 t459))) else (none))) = some (r1, r2, r3, r4, r5, r6, r7) := H
  have A46 := Aside0.mk A460
  clear A460
  replace H := Option.bind_eq_some_iff.mp H
  obtain ⟨t467, A470, H⟩ := H
  replace H : (if 1 < (t437.length : Int) then ((spec_l17Index.f kj2 t467 (rdOf ByteArray.empty t437 1)).bind fun t471 => (if t450 = true then (if t454 = true then (if t457 = true then (if t460 = true then ((spec_l14Good.f t449 t466 t471 t453 t456 t459).bind fun t473 => (if t473 = true then ((spec_l17Line.f kj2 t449 t466 t471 t453 t456 t459).bind fun t474 => (spec_l17Parse.j1 kj2 (t474.toList != a0.toList) 0 0 0 0 0 0 t449 t466 t471 t453 t456 t459)) else (spec_l17Parse.j1 kj2 true 0 0 0 0 0 0 t449 t466 t471 t453 t456 t459))) else (spec_l17Parse.j1 kj2 true 0 0 0 0 0 0 t449 t466 t471 t453 t456 t459)) else (spec_l17Parse.j1 kj2 true 0 0 0 0 0 0 t449 t466 t471 t453 t456 t459)) else (spec_l17Parse.j1 kj2 true 0 0 0 0 0 0 t449 t466 t471 t453 t456 t459)) else (spec_l17Parse.j1 kj2 true 0 0 0 0 0 0 t449 t466 t471 t453 t456 t459))) else (none)) = some (r1, r2, r3, r4, r5, r6, r7) := H
  have A47 := Aside0.mk A470
  clear A470
  by_cases c48 : 1 < (t437.length : Int)
  case neg =>
   rw [if_neg c48] at H
   exact absurd H (by simp)
  rw [if_pos c48] at H
  have c48b0 : decide (1 < (t437.length : Int)) = true := decide_eq_true c48
  have c48b1 : decide (1 < t437.length) = true := decide_eq_true (by omega)
  clear c48
  replace H := Option.bind_eq_some_iff.mp H
  obtain ⟨t471, A490, H⟩ := H
  replace H : (if t450 = true then (if t454 = true then (if t457 = true then (if t460 = true then ((spec_l14Good.f t449 t466 t471 t453 t456 t459).bind fun t473 => (if t473 = true then ((spec_l17Line.f kj2 t449 t466 t471 t453 t456 t459).bind fun t474 => (spec_l17Parse.j1 kj2 (t474.toList != a0.toList) 0 0 0 0 0 0 t449 t466 t471 t453 t456 t459)) else (spec_l17Parse.j1 kj2 true 0 0 0 0 0 0 t449 t466 t471 t453 t456 t459))) else (spec_l17Parse.j1 kj2 true 0 0 0 0 0 0 t449 t466 t471 t453 t456 t459)) else (spec_l17Parse.j1 kj2 true 0 0 0 0 0 0 t449 t466 t471 t453 t456 t459)) else (spec_l17Parse.j1 kj2 true 0 0 0 0 0 0 t449 t466 t471 t453 t456 t459)) else (spec_l17Parse.j1 kj2 true 0 0 0 0 0 0 t449 t466 t471 t453 t456 t459)) = some (r1, r2, r3, r4, r5, r6, r7) := H
  have A49 := Aside0.mk A490
  clear A490
  have HC50 := Aside0.mk H
  clear H
  obtain ⟨Ao51, co51, eo51⟩ := Kd.R_slice HO_5.out
  subst eo51
  have p443 : 0 ≤ (6 : Int) := (by omega)
  have q443 : 6 < (t437.length : Int) := of_decide_eq_true zq6
  obtain ⟨ad443, e443, hx443_0⟩ := Kd.at_string (Kd.R_reads' HO_5.out).2.2 6 p443 q443
  cases e443
  (try simp only [show (6 : Int).toNat = 6 from rfl, Nat.reduceMul, Nat.reduceEqDiff, Go.Addr.add, ↓reduceIte] at hx443_0)
  have qi443 : (6 < t437.length) = True := eq_true (by omega)
  (try rw [show ((6 : Int)).toNat = 6 from rfl] at hx443_0)
  replace p443 := eq_true p443
  replace q443 := eq_true q443
  try go_wp2_with (first | ((with_reducible refine gate_callee (f := 34) rfl ?_); refine goesL_ (some 52) rfl rfl Tryd.func34 (by kernel_rfl) rfl #[.string (rdOf ByteArray.empty t437 6), .int .u8 45] rfl zq2 ?_; (with_reducible refine (spec_l1Split.calls kj2 (rdOf ByteArray.empty t437 6) 45 t444 _ A25.out).mono ?_); rintro e w52 ⟨v445, rfl, ho0, hb⟩; refine ⟨_, rfl, ?_⟩; have n0_ := Aside0.mk (Kd.R_elder' (zqR HO_5.out) (Kd.R_base ho0) hb); have n1_ := Aside0.mk (Kd.R_lower (Kd.R_new' ho0 (Kd.R_lt (zqR HO_5.out))) (below_size zq3)); have n2_ := Aside0.mk (blk_below (g := gb435) (o := .cells #[.int .i64 0, .int .i64 0, .int .i64 0, .int .i64 0, .int .i64 0, .int .i64 0] 23 (0, 0)) (zqK BK435.out) hb); have n3_ := Aside0.mk (blk_below (g := gb436) (o := .cells #[.int .i64 0, .int .i64 0, .int .i64 0, .int .i64 0, .int .i64 0, .int .i64 0] 23 (0, 0)) (zqK BK436.out) hb); have n4_ := Aside0.mk (below_step zq3 hb); clear HO_5; clear BK435; clear BK436; clear HB; have HO_5 := n0_; have HO446 := n1_; have BK435 := n2_; have BK436 := n3_; have HB := n4_; clear n0_ n1_ n2_ n3_ n4_; (try clear hb); (try clear hb2); (try clear hk); (try clear hi); (try clear ho0); obtain ⟨Ao53, co53, eo53⟩ := Kd.R_slice HO446.out; subst eo53))
  have n0_ := Aside0.mk (Kd.R_drew HO_5.out)
  have n1_ := Aside0.mk (Kd.R_drew HO446.out)
  have n2_ := Aside0.mk (blk_drew BK435.out)
  have n3_ := Aside0.mk (blk_drew BK436.out)
  have n4_ := Aside0.mk (below_drew1 HB.out)
  clear HO_5
  clear HO446
  clear BK435
  clear BK436
  clear HB
  have HO_5 := n0_
  have HO446 := n1_
  have BK435 := n2_
  have BK436 := n3_
  have HB := n4_
  clear n0_ n1_ n2_ n3_ n4_
  have p447 : 0 ≤ (0 : Int) := (by omega)
  have q447 : 0 < (t437.length : Int) := of_decide_eq_true zq6
  obtain ⟨ad447, e447, hx447_0⟩ := Kd.at_string (Kd.R_reads' HO_5.out).2.2 0 p447 q447
  obtain rfl : ad443 = ad447 := (by injection e447)
  have qi447 : (0 < t437.length) = True := eq_true (by omega)
  (try rw [show ((0 : Int)).toNat = 0 from rfl] at hx447_0)
  (try rw [Addr.add_zero'] at hx447_0)
  replace p447 := eq_true p447
  replace q447 := eq_true q447
  have p448 : 0 ≤ (0 : Int) := (by omega)
  have q448 : 0 < (t437.length : Int) := of_decide_eq_true zq6
  obtain ⟨ad448, e448, hx448_0⟩ := Kd.at_string (Kd.R_reads' HO_5.out).2.2 0 p448 q448
  obtain rfl : ad443 = ad448 := (by injection e448)
  have qi448 : (0 < t437.length) = True := eq_true (by omega)
  (try rw [show ((0 : Int)).toNat = 0 from rfl] at hx448_0)
  (try rw [Addr.add_zero'] at hx448_0)
  replace p448 := eq_true p448
  replace q448 := eq_true q448
  refine start_ (n := 15) (S := fun w' => w'.cell? ad443 = some (.string (rdOf ByteArray.empty t437 0)) ∧ w'.cell? ad443 = some (.string (rdOf ByteArray.empty t437 0))) (ds := []) #[false, false, false, false, false, false, false, false, false, false, false, false, false, false, false] (by kernel_rfl) rfl rfl ⟨hx447_0, hx448_0⟩ (fun hHeld => ?_); refine with_tabW spec_l17Parse.tab8 spec_l17Parse.bits8 (fun HT_ HW_ => ?_)
  generalize w52.drew = w54 at HO_5 HO446 BK435 BK436 HB hx447_0 hx448_0 hHeld ⊢
  refine pure_ (i := 0) (N := some 58) (v := ?_) (a' := ?_) #[true, false, false, false, false, false, false, false, false, false, false, false, false, false, false] rfl rfl (any_of HT_.out (by kernel_rfl)) (fun _ _ _ h => h) (Or.inl ⟨by rfl, ?_⟩) ?_ ?_
  rotate_left; · exact zqB
  rotate_left; · exact zqA
  refine pure_ (i := 1) (N := some 59) (v := ?_) (a' := ?_) #[true, true, false, false, false, false, false, false, false, false, false, false, false, false, false] rfl rfl (any_of HT_.out (by kernel_rfl)) (fun _ _ _ h => h) (Or.inl ⟨by rfl, ?_⟩) ?_ ?_
  rotate_left; · exact zqB
  rotate_left; · exact zqA
  refine pure_ (i := 3) (N := some 61) (v := ?_) (a' := ?_) #[true, true, false, true, false, false, false, false, false, false, false, false, false, false, false] rfl rfl (any_of HT_.out (by kernel_rfl)) (fun _ _ _ h => h) (Or.inl ⟨by rfl, ?_⟩) ?_ ?_
  rotate_left; · exact zqB
  rotate_left; · exact zqA
  refine pure_ (i := 4) (N := some 62) (v := ?_) (a' := ?_) #[true, true, false, true, true, false, false, false, false, false, false, false, false, false, false] rfl rfl (any_of HT_.out (by kernel_rfl)) (fun _ _ _ h => h) (Or.inl ⟨by rfl, ?_⟩) ?_ ?_
  rotate_left; · exact zqB
  rotate_left; · exact zqA
  refine take_ (i := 2) (N := some 60) (v := ?_) (a' := ?_) #[true, true, true, true, true, false, false, false, false, false, false, false, false, false, false] rfl rfl (take_ofW HT_.out HW_.out (by kernel_rfl)) (fun _ _ _ h => h) (Or.inl ⟨by rfl, ?_⟩) hHeld ?_ ?_
  rotate_left
  ·
   rintro w' ⟨s0, s1⟩
   go_simp
   with_reducible rfl
  rotate_left; · exact zqA
  refine take_ (i := 5) (N := some 63) (v := ?_) (a' := ?_) #[true, true, true, true, true, true, false, false, false, false, false, false, false, false, false] rfl rfl (take_ofW HT_.out HW_.out (by kernel_rfl)) (fun _ _ _ h => h) (Or.inl ⟨by rfl, ?_⟩) hHeld ?_ ?_
  rotate_left
  ·
   rintro w' ⟨s0, s1⟩
   go_simp
   with_reducible rfl
  rotate_left; · exact zqA
  refine pure_ (i := 6) (N := some 64) (v := ?_) (a' := ?_) #[true, true, true, true, true, true, true, false, false, false, false, false, false, false, false] rfl rfl (any_of HT_.out (by kernel_rfl)) (fun _ _ _ h => h) (Or.inl ⟨by rfl, ?_⟩) ?_ ?_
  rotate_left; · exact zqB
  rotate_left; · exact zqA
  refine pure_ (i := 7) (N := some 65) (v := ?_) (a' := ?_) #[true, true, true, true, true, true, true, true, false, false, false, false, false, false, false] rfl rfl (any_of HT_.out (by kernel_rfl)) (fun _ _ _ h => h) (Or.inl ⟨by rfl, ?_⟩) ?_ ?_
  rotate_left; · exact zqB
  rotate_left; · exact zqA
  refine pure_ (i := 8) (N := some 66) (v := ?_) (a' := ?_) #[true, true, true, true, true, true, true, true, true, false, false, false, false, false, false] rfl rfl (any_of HT_.out (by kernel_rfl)) (fun _ _ _ h => h) (Or.inl ⟨by rfl, ?_⟩) ?_ ?_
  rotate_left; · exact zqB
  rotate_left; · exact zqA
  refine one_ (i := 9) (N := some 67) #[true, true, true, true, true, true, true, true, true, true, false, false, false, false, false] rfl rfl (one_of HT_.out (by kernel_rfl)) (by decide) (fun K hK => ?_)
  refine goes_ Tryd.func23 (by kernel_rfl) rfl #[.string ((rdOf ByteArray.empty t437 0).extract 0 ((ji28) : Int).toNat)] (by rfl) rfl rfl (by (try simp only [List.map_toArray, List.map_cons, List.map_nil]); first | done | (simp only [hji28]; rfl) | rfl | (simp only [List.length_drop, List.length_take]; rfl)) ?_
  with_reducible refine (spec_l1Read.calls kj2 ((rdOf ByteArray.empty t437 0).extract 0 ((ji28) : Int).toNat) t449 t450 _ A31.out).mono ?_
  rintro e w55 ⟨rfl, hb⟩
  have HS0_ := (hb.cell (World.block_lt_of_cell? _ _ (hHeld.1))).trans (hHeld.1)
  have HS1_ := (hb.cell (World.block_lt_of_cell? _ _ (hHeld.2))).trans (hHeld.2)
  refine ⟨_, rfl, ?_⟩
  have n0_ := Aside0.mk (Kd.R_below (zqR HO_5.out) hb)
  have n1_ := Aside0.mk (Kd.R_below (zqR HO446.out) hb)
  have n2_ := Aside0.mk (blk_below (g := gb435) (o := .cells #[.int .i64 0, .int .i64 0, .int .i64 0, .int .i64 0, .int .i64 0, .int .i64 0] 23 (0, 0)) (zqK BK435.out) hb)
  have n3_ := Aside0.mk (blk_below (g := gb436) (o := .cells #[.int .i64 0, .int .i64 0, .int .i64 0, .int .i64 0, .int .i64 0, .int .i64 0] 23 (0, 0)) (zqK BK436.out) hb)
  have n4_ := Aside0.mk (below_step zq3 hb)
  clear HO_5
  clear HO446
  clear BK435
  clear BK436
  clear HB
  have HO_5 := n0_
  have HO446 := n1_
  have BK435 := n2_
  have BK436 := n3_
  have HB := n4_
  clear n0_ n1_ n2_ n3_ n4_
  (try clear hb)
  (try clear hb2)
  (try clear hk)
  (try clear hi)
  refine hK.out _ _ ⟨HS0_, HS1_⟩ (fun hHeld => ?_)
  clear hK K
  refine norm_ (a' := ?_) ?_ ?_
  rotate_left
  ·
   show Act.put _ (some 67) _ = _
   simp only [Act.put, List.setIfInBounds_toArray, List.set_cons_zero, List.set_cons_succ, i64_w, i32_w]
   rfl
  refine pure_ (i := 10) (N := some 57) (v := ?_) (a' := ?_) #[true, true, true, true, true, true, true, true, true, true, true, false, false, false, false] rfl rfl (any_of HT_.out (by kernel_rfl)) (fun _ _ _ h => h) (Or.inl ⟨by rfl, ?_⟩) ?_ ?_
  rotate_left; · exact zqB
  rotate_left; · exact zqA
  refine pure_ (i := 11) (N := some 68) (v := ?_) (a' := ?_) #[true, true, true, true, true, true, true, true, true, true, true, true, false, false, false] rfl rfl (any_of HT_.out (by kernel_rfl)) (fun _ _ _ h => h) (Or.inl ⟨by rfl, ?_⟩) ?_ ?_
  rotate_left; · exact zqB
  rotate_left; · exact zqA
  refine pure_ (i := 12) (N := some 69) (v := ?_) (a' := ?_) #[true, true, true, true, true, true, true, true, true, true, true, true, true, false, false] rfl rfl (any_of HT_.out (by kernel_rfl)) (fun _ _ _ h => h) (Or.inl ⟨by rfl, ?_⟩) ?_ ?_
  rotate_left; · exact zqB
  rotate_left; · exact zqA
  refine pure_ (i := 13) (N := some 7) (v := ?_) (a' := ?_) #[true, true, true, true, true, true, true, true, true, true, true, true, true, true, false] rfl rfl (any_of HT_.out (by kernel_rfl)) (fun _ _ _ h => h) (Or.inl ⟨by rfl, ?_⟩) ?_ ?_
  rotate_left; · exact zqB
  rotate_left; · exact zqA
  refine pure_ (i := 14) (N := some 8) (v := ?_) (a' := ?_) #[true, true, true, true, true, true, true, true, true, true, true, true, true, true, true] rfl rfl (any_of HT_.out (by kernel_rfl)) (fun _ _ _ h => h) (Or.inl ⟨by rfl, ?_⟩) ?_ ?_
  rotate_left; · exact zqB
  rotate_left; · exact zqA
  refine done_ (done_of HT_.out (by kernel_rfl)) ?_
  try go_wp2
  have n0_ := Aside0.mk (Kd.R_drew HO_5.out)
  have n1_ := Aside0.mk (Kd.R_drew HO446.out)
  have n2_ := Aside0.mk (blk_drew BK435.out)
  have n3_ := Aside0.mk (blk_drew BK436.out)
  have n4_ := Aside0.mk (below_drew1 HB.out)
  clear HO_5
  clear HO446
  clear BK435
  clear BK436
  clear HB
  have HO_5 := n0_
  have HO446 := n1_
  have BK435 := n2_
  have BK436 := n3_
  have HB := n4_
  clear n0_ n1_ n2_ n3_ n4_
  have p451 : 0 ≤ (4 : Int) := (by omega)
  have q451 : 4 < (t437.length : Int) := of_decide_eq_true zq6
  obtain ⟨ad451, e451, hx451_0⟩ := Kd.at_string (Kd.R_reads' HO_5.out).2.2 4 p451 q451
  obtain rfl : ad443 = ad451 := (by injection e451)
  (try simp only [show (4 : Int).toNat = 4 from rfl, Nat.reduceMul, Nat.reduceEqDiff, Go.Addr.add, ↓reduceIte] at hx451_0)
  have qi451 : (4 < t437.length) = True := eq_true (by omega)
  (try rw [show ((4 : Int)).toNat = 4 from rfl] at hx451_0)
  replace p451 := eq_true p451
  replace q451 := eq_true q451
  have p452 : 0 ≤ (4 : Int) := (by omega)
  have q452 : 4 < (t437.length : Int) := of_decide_eq_true zq6
  obtain ⟨ad452, e452, hx452_0⟩ := Kd.at_string (Kd.R_reads' HO_5.out).2.2 4 p452 q452
  obtain rfl : ad443 = ad452 := (by injection e452)
  (try simp only [show (4 : Int).toNat = 4 from rfl, Nat.reduceMul, Nat.reduceEqDiff, Go.Addr.add, ↓reduceIte] at hx452_0)
  have qi452 : (4 < t437.length) = True := eq_true (by omega)
  (try rw [show ((4 : Int)).toNat = 4 from rfl] at hx452_0)
  replace p452 := eq_true p452
  replace q452 := eq_true q452
  refine start_ (n := 15) (S := fun w' => w'.cell? ⟨ad443.block, ad443.off + 4, none⟩ = some (.string (rdOf ByteArray.empty t437 4)) ∧ w'.cell? ⟨ad443.block, ad443.off + 4, none⟩ = some (.string (rdOf ByteArray.empty t437 4))) (ds := []) #[false, false, false, false, false, false, false, false, false, false, false, false, false, false, false] (by kernel_rfl) rfl rfl ⟨hx451_0, hx452_0⟩ (fun hHeld => ?_); refine with_tabW spec_l17Parse.tab9 spec_l17Parse.bits9 (fun HT_ HW_ => ?_)
  generalize w55.drew = w56 at HO_5 HO446 BK435 BK436 HB hx451_0 hx452_0 hHeld ⊢
  refine pure_ (i := 0) (N := some 71) (v := ?_) (a' := ?_) #[true, false, false, false, false, false, false, false, false, false, false, false, false, false, false] rfl rfl (any_of HT_.out (by kernel_rfl)) (fun _ _ _ h => h) (Or.inl ⟨by rfl, ?_⟩) ?_ ?_
  rotate_left; · exact zqB
  rotate_left; · exact zqA
  refine pure_ (i := 1) (N := some 72) (v := ?_) (a' := ?_) #[true, true, false, false, false, false, false, false, false, false, false, false, false, false, false] rfl rfl (any_of HT_.out (by kernel_rfl)) (fun _ _ _ h => h) (Or.inl ⟨by rfl, ?_⟩) ?_ ?_
  rotate_left; · exact zqB
  rotate_left; · exact zqA
  refine pure_ (i := 3) (N := some 74) (v := ?_) (a' := ?_) #[true, true, false, true, false, false, false, false, false, false, false, false, false, false, false] rfl rfl (any_of HT_.out (by kernel_rfl)) (fun _ _ _ h => h) (Or.inl ⟨by rfl, ?_⟩) ?_ ?_
  rotate_left; · exact zqB
  rotate_left; · exact zqA
  refine pure_ (i := 4) (N := some 75) (v := ?_) (a' := ?_) #[true, true, false, true, true, false, false, false, false, false, false, false, false, false, false] rfl rfl (any_of HT_.out (by kernel_rfl)) (fun _ _ _ h => h) (Or.inl ⟨by rfl, ?_⟩) ?_ ?_
  rotate_left; · exact zqB
  rotate_left; · exact zqA
  refine take_ (i := 2) (N := some 73) (v := ?_) (a' := ?_) #[true, true, true, true, true, false, false, false, false, false, false, false, false, false, false] rfl rfl (take_ofW HT_.out HW_.out (by kernel_rfl)) (fun _ _ _ h => h) (Or.inl ⟨by rfl, ?_⟩) hHeld ?_ ?_
  rotate_left
  ·
   rintro w' ⟨s0, s1⟩
   go_simp
   with_reducible rfl
  rotate_left; · exact zqA
  refine take_ (i := 5) (N := some 76) (v := ?_) (a' := ?_) #[true, true, true, true, true, true, false, false, false, false, false, false, false, false, false] rfl rfl (take_ofW HT_.out HW_.out (by kernel_rfl)) (fun _ _ _ h => h) (Or.inl ⟨by rfl, ?_⟩) hHeld ?_ ?_
  rotate_left
  ·
   rintro w' ⟨s0, s1⟩
   go_simp
   with_reducible rfl
  rotate_left; · exact zqA
  refine pure_ (i := 6) (N := some 77) (v := ?_) (a' := ?_) #[true, true, true, true, true, true, true, false, false, false, false, false, false, false, false] rfl rfl (any_of HT_.out (by kernel_rfl)) (fun _ _ _ h => h) (Or.inl ⟨by rfl, ?_⟩) ?_ ?_
  rotate_left; · exact zqB
  rotate_left; · exact zqA
  refine pure_ (i := 7) (N := some 78) (v := ?_) (a' := ?_) #[true, true, true, true, true, true, true, true, false, false, false, false, false, false, false] rfl rfl (any_of HT_.out (by kernel_rfl)) (fun _ _ _ h => h) (Or.inl ⟨by rfl, ?_⟩) ?_ ?_
  rotate_left; · exact zqB
  rotate_left; · exact zqA
  refine pure_ (i := 8) (N := some 79) (v := ?_) (a' := ?_) #[true, true, true, true, true, true, true, true, true, false, false, false, false, false, false] rfl rfl (any_of HT_.out (by kernel_rfl)) (fun _ _ _ h => h) (Or.inl ⟨by rfl, ?_⟩) ?_ ?_
  rotate_left; · exact zqB
  rotate_left; · exact zqA
  refine one_ (i := 9) (N := some 80) #[true, true, true, true, true, true, true, true, true, true, false, false, false, false, false] rfl rfl (one_of HT_.out (by kernel_rfl)) (by decide) (fun K hK => ?_)
  refine goes_ Tryd.func23 (by kernel_rfl) rfl #[.string ((rdOf ByteArray.empty t437 4).extract 0 ((ji33) : Int).toNat)] (by rfl) rfl rfl (by (try simp only [List.map_toArray, List.map_cons, List.map_nil]); first | done | (simp only [hji33]; rfl) | rfl | (simp only [List.length_drop, List.length_take]; rfl)) ?_
  with_reducible refine (spec_l1Read.calls kj2 ((rdOf ByteArray.empty t437 4).extract 0 ((ji33) : Int).toNat) t453 t454 _ A36.out).mono ?_
  rintro e w57 ⟨rfl, hb⟩
  have HS0_ := (hb.cell (World.block_lt_of_cell? _ _ (hHeld.1))).trans (hHeld.1)
  have HS1_ := (hb.cell (World.block_lt_of_cell? _ _ (hHeld.2))).trans (hHeld.2)
  refine ⟨_, rfl, ?_⟩
  have n0_ := Aside0.mk (Kd.R_below (zqR HO_5.out) hb)
  have n1_ := Aside0.mk (Kd.R_below (zqR HO446.out) hb)
  have n2_ := Aside0.mk (blk_below (g := gb435) (o := .cells #[.int .i64 0, .int .i64 0, .int .i64 0, .int .i64 0, .int .i64 0, .int .i64 0] 23 (0, 0)) (zqK BK435.out) hb)
  have n3_ := Aside0.mk (blk_below (g := gb436) (o := .cells #[.int .i64 0, .int .i64 0, .int .i64 0, .int .i64 0, .int .i64 0, .int .i64 0] 23 (0, 0)) (zqK BK436.out) hb)
  have n4_ := Aside0.mk (below_step zq3 hb)
  clear HO_5
  clear HO446
  clear BK435
  clear BK436
  clear HB
  have HO_5 := n0_
  have HO446 := n1_
  have BK435 := n2_
  have BK436 := n3_
  have HB := n4_
  clear n0_ n1_ n2_ n3_ n4_
  (try clear hb)
  (try clear hb2)
  (try clear hk)
  (try clear hi)
  refine hK.out _ _ ⟨HS0_, HS1_⟩ (fun hHeld => ?_)
  clear hK K
  refine norm_ (a' := ?_) ?_ ?_
  rotate_left
  ·
   show Act.put _ (some 80) _ = _
   simp only [Act.put, List.setIfInBounds_toArray, List.set_cons_zero, List.set_cons_succ, i64_w, i32_w]
   rfl
  refine pure_ (i := 10) (N := some 70) (v := ?_) (a' := ?_) #[true, true, true, true, true, true, true, true, true, true, true, false, false, false, false] rfl rfl (any_of HT_.out (by kernel_rfl)) (fun _ _ _ h => h) (Or.inl ⟨by rfl, ?_⟩) ?_ ?_
  rotate_left; · exact zqB
  rotate_left; · exact zqA
  refine pure_ (i := 11) (N := some 81) (v := ?_) (a' := ?_) #[true, true, true, true, true, true, true, true, true, true, true, true, false, false, false] rfl rfl (any_of HT_.out (by kernel_rfl)) (fun _ _ _ h => h) (Or.inl ⟨by rfl, ?_⟩) ?_ ?_
  rotate_left; · exact zqB
  rotate_left; · exact zqA
  refine pure_ (i := 12) (N := some 82) (v := ?_) (a' := ?_) #[true, true, true, true, true, true, true, true, true, true, true, true, true, false, false] rfl rfl (any_of HT_.out (by kernel_rfl)) (fun _ _ _ h => h) (Or.inl ⟨by rfl, ?_⟩) ?_ ?_
  rotate_left; · exact zqB
  rotate_left; · exact zqA
  refine pure_ (i := 13) (N := some 9) (v := ?_) (a' := ?_) #[true, true, true, true, true, true, true, true, true, true, true, true, true, true, false] rfl rfl (any_of HT_.out (by kernel_rfl)) (fun _ _ _ h => h) (Or.inl ⟨by rfl, ?_⟩) ?_ ?_
  rotate_left; · exact zqB
  rotate_left; · exact zqA
  refine pure_ (i := 14) (N := some 10) (v := ?_) (a' := ?_) #[true, true, true, true, true, true, true, true, true, true, true, true, true, true, true] rfl rfl (any_of HT_.out (by kernel_rfl)) (fun _ _ _ h => h) (Or.inl ⟨by rfl, ?_⟩) ?_ ?_
  rotate_left; · exact zqB
  rotate_left; · exact zqA
  refine done_ (done_of HT_.out (by kernel_rfl)) ?_
  have p455 : 0 ≤ (0 : Int) := (by omega)
  have q455 : 0 < (t444.length : Int) := of_decide_eq_true zq6
  obtain ⟨ad455, e455, hx455_0⟩ := Kd.at_string (Kd.R_reads' HO446.out).2.2 0 p455 q455
  cases e455
  have qi455 : (0 < t444.length) = True := eq_true (by omega)
  (try rw [show ((0 : Int)).toNat = 0 from rfl] at hx455_0)
  (try rw [Addr.add_zero'] at hx455_0)
  replace p455 := eq_true p455
  replace q455 := eq_true q455
  try go_wp2_with (first | ((with_reducible refine gate_callee (f := 23) rfl ?_); refine goesL_ (some 87) rfl rfl Tryd.func23 (by kernel_rfl) rfl #[.string (rdOf ByteArray.empty t444 0)] rfl zq2 ?_; (with_reducible refine (spec_l1Read.calls kj2 (rdOf ByteArray.empty t444 0) t456 t457 _ A38.out).mono ?_); rintro e w58 ⟨rfl, hb⟩; refine ⟨_, rfl, ?_⟩; have n0_ := Aside0.mk (Kd.R_below (zqR HO_5.out) hb); have n1_ := Aside0.mk (Kd.R_below (zqR HO446.out) hb); have n2_ := Aside0.mk (blk_below (g := gb435) (o := .cells #[.int .i64 0, .int .i64 0, .int .i64 0, .int .i64 0, .int .i64 0, .int .i64 0] 23 (0, 0)) (zqK BK435.out) hb); have n3_ := Aside0.mk (blk_below (g := gb436) (o := .cells #[.int .i64 0, .int .i64 0, .int .i64 0, .int .i64 0, .int .i64 0, .int .i64 0] 23 (0, 0)) (zqK BK436.out) hb); have n4_ := Aside0.mk (below_step zq3 hb); clear HO_5; clear HO446; clear BK435; clear BK436; clear HB; have HO_5 := n0_; have HO446 := n1_; have BK435 := n2_; have BK436 := n3_; have HB := n4_; clear n0_ n1_ n2_ n3_ n4_; (try clear hb); (try clear hb2); (try clear hk); (try clear hi); have p458 : 0 ≤ (1 : Int) := (by omega); have q458 : 1 < (t444.length : Int) := of_decide_eq_true zq6; obtain ⟨ad458, e458, hx458_0⟩ := Kd.at_string (Kd.R_reads' HO446.out).2.2 1 p458 q458; obtain rfl : ad455 = ad458 := (by injection e458); (try simp only [show (1 : Int).toNat = 1 from rfl, Nat.reduceMul, Nat.reduceEqDiff, Go.Addr.add, ↓reduceIte] at hx458_0); have qi458 : (1 < t444.length) = True := eq_true (by omega); (try rw [show ((1 : Int)).toNat = 1 from rfl] at hx458_0); replace p458 := eq_true p458; replace q458 := eq_true q458) | ((with_reducible refine gate_callee (f := 23) rfl ?_); refine goesL_ (some 94) rfl rfl Tryd.func23 (by kernel_rfl) rfl #[.string (rdOf ByteArray.empty t444 1)] rfl zq2 ?_; (with_reducible refine (spec_l1Read.calls kj2 (rdOf ByteArray.empty t444 1) t459 t460 _ A40.out).mono ?_); rintro e w59 ⟨rfl, hb⟩; refine ⟨_, rfl, ?_⟩; have n0_ := Aside0.mk (Kd.R_below (zqR HO_5.out) hb); have n1_ := Aside0.mk (Kd.R_below (zqR HO446.out) hb); have n2_ := Aside0.mk (blk_below (g := gb435) (o := .cells #[.int .i64 0, .int .i64 0, .int .i64 0, .int .i64 0, .int .i64 0, .int .i64 0] 23 (0, 0)) (zqK BK435.out) hb); have n3_ := Aside0.mk (blk_below (g := gb436) (o := .cells #[.int .i64 0, .int .i64 0, .int .i64 0, .int .i64 0, .int .i64 0, .int .i64 0] 23 (0, 0)) (zqK BK436.out) hb); have n4_ := Aside0.mk (below_step zq3 hb); clear HO_5; clear HO446; clear BK435; clear BK436; clear HB; have HO_5 := n0_; have HO446 := n1_; have BK435 := n2_; have BK436 := n3_; have HB := n4_; clear n0_ n1_ n2_ n3_ n4_; (try clear hb); (try clear hb2); (try clear hk); (try clear hi)))
  have n0_ := Aside0.mk (Kd.R_drew HO_5.out)
  have n1_ := Aside0.mk (Kd.R_drew HO446.out)
  have n2_ := Aside0.mk (blk_drew BK435.out)
  have n3_ := Aside0.mk (blk_drew BK436.out)
  have n4_ := Aside0.mk (below_drew1 HB.out)
  clear HO_5
  clear HO446
  clear BK435
  clear BK436
  clear HB
  have HO_5 := n0_
  have HO446 := n1_
  have BK435 := n2_
  have BK436 := n3_
  have HB := n4_
  clear n0_ n1_ n2_ n3_ n4_
  have p464 : 0 ≤ (2 : Int) := (by omega)
  have q464 : 2 < (t437.length : Int) := of_decide_eq_true zq6
  obtain ⟨ad464, e464, hx464_0⟩ := Kd.at_string (Kd.R_reads' HO_5.out).2.2 2 p464 q464
  obtain rfl : ad443 = ad464 := (by injection e464)
  (try simp only [show (2 : Int).toNat = 2 from rfl, Nat.reduceMul, Nat.reduceEqDiff, Go.Addr.add, ↓reduceIte] at hx464_0)
  have qi464 : (2 < t437.length) = True := eq_true (by omega)
  (try rw [show ((2 : Int)).toNat = 2 from rfl] at hx464_0)
  replace p464 := eq_true p464
  replace q464 := eq_true q464
  have p465 : 0 ≤ (2 : Int) := (by omega)
  have q465 : 2 < (t437.length : Int) := of_decide_eq_true zq6
  obtain ⟨ad465, e465, hx465_0⟩ := Kd.at_string (Kd.R_reads' HO_5.out).2.2 2 p465 q465
  obtain rfl : ad443 = ad465 := (by injection e465)
  (try simp only [show (2 : Int).toNat = 2 from rfl, Nat.reduceMul, Nat.reduceEqDiff, Go.Addr.add, ↓reduceIte] at hx465_0)
  have qi465 : (2 < t437.length) = True := eq_true (by omega)
  (try rw [show ((2 : Int)).toNat = 2 from rfl] at hx465_0)
  replace p465 := eq_true p465
  replace q465 := eq_true q465
  have p470 : 0 ≤ (1 : Int) := (by omega)
  have q470 : 1 < (t437.length : Int) := of_decide_eq_true zq6
  obtain ⟨ad470, e470, hx470_0⟩ := Kd.at_string (Kd.R_reads' HO_5.out).2.2 1 p470 q470
  obtain rfl : ad443 = ad470 := (by injection e470)
  (try simp only [show (1 : Int).toNat = 1 from rfl, Nat.reduceMul, Nat.reduceEqDiff, Go.Addr.add, ↓reduceIte] at hx470_0)
  have qi470 : (1 < t437.length) = True := eq_true (by omega)
  (try rw [show ((1 : Int)).toNat = 1 from rfl] at hx470_0)
  replace p470 := eq_true p470
  replace q470 := eq_true q470
  refine start_ (n := 23) (S := fun w' => w'.cell? ⟨ad443.block, ad443.off + 2, none⟩ = some (.string (rdOf ByteArray.empty t437 2)) ∧ w'.cell? ⟨ad443.block, ad443.off + 2, none⟩ = some (.string (rdOf ByteArray.empty t437 2)) ∧ w'.cell? ⟨ad443.block, ad443.off + 1, none⟩ = some (.string (rdOf ByteArray.empty t437 1))) (ds := []) #[false, false, false, false, false, false, false, false, false, false, false, false, false, false, false, false, false, false, false, false, false, false, false] (by kernel_rfl) rfl rfl ⟨hx464_0, hx465_0, hx470_0⟩ (fun hHeld => ?_); refine with_tabW spec_l17Parse.tab12 spec_l17Parse.bits12 (fun HT_ HW_ => ?_)
  generalize w59.drew = w60 at HO_5 HO446 BK435 BK436 HB hx464_0 hx465_0 hx470_0 hHeld ⊢
  refine pure_ (i := 0) (N := some 97) (v := ?_) (a' := ?_) #[true, false, false, false, false, false, false, false, false, false, false, false, false, false, false, false, false, false, false, false, false, false, false] rfl rfl (any_of HT_.out (by kernel_rfl)) (fun _ _ _ h => h) (Or.inl ⟨by rfl, ?_⟩) ?_ ?_
  rotate_left; · exact zqB
  rotate_left; · exact zqA
  refine pure_ (i := 2) (N := some 99) (v := ?_) (a' := ?_) #[true, false, true, false, false, false, false, false, false, false, false, false, false, false, false, false, false, false, false, false, false, false, false] rfl rfl (any_of HT_.out (by kernel_rfl)) (fun _ _ _ h => h) (Or.inl ⟨by rfl, ?_⟩) ?_ ?_
  rotate_left; · exact zqB
  rotate_left; · exact zqA
  refine pure_ (i := 3) (N := some 100) (v := ?_) (a' := ?_) #[true, false, true, true, false, false, false, false, false, false, false, false, false, false, false, false, false, false, false, false, false, false, false] rfl rfl (any_of HT_.out (by kernel_rfl)) (fun _ _ _ h => h) (Or.inl ⟨by rfl, ?_⟩) ?_ ?_
  rotate_left; · exact zqB
  rotate_left; · exact zqA
  refine pure_ (i := 5) (N := some 102) (v := ?_) (a' := ?_) #[true, false, true, true, false, true, false, false, false, false, false, false, false, false, false, false, false, false, false, false, false, false, false] rfl rfl (any_of HT_.out (by kernel_rfl)) (fun _ _ _ h => h) (Or.inl ⟨by rfl, ?_⟩) ?_ ?_
  rotate_left; · exact zqB
  rotate_left; · exact zqA
  refine pure_ (i := 6) (N := some 103) (v := ?_) (a' := ?_) #[true, false, true, true, false, true, true, false, false, false, false, false, false, false, false, false, false, false, false, false, false, false, false] rfl rfl (any_of HT_.out (by kernel_rfl)) (fun _ _ _ h => h) (Or.inl ⟨by rfl, ?_⟩) ?_ ?_
  rotate_left; · exact zqB
  rotate_left; · exact zqA
  refine pure_ (i := 13) (N := some 110) (v := ?_) (a' := ?_) #[true, false, true, true, false, true, true, false, false, false, false, false, false, true, false, false, false, false, false, false, false, false, false] rfl rfl (any_of HT_.out (by kernel_rfl)) (fun _ _ _ h => h) (Or.inl ⟨by rfl, ?_⟩) ?_ ?_
  rotate_left; · exact zqB
  rotate_left; · exact zqA
  refine pure_ (i := 14) (N := some 111) (v := ?_) (a' := ?_) #[true, false, true, true, false, true, true, false, false, false, false, false, false, true, true, false, false, false, false, false, false, false, false] rfl rfl (any_of HT_.out (by kernel_rfl)) (fun _ _ _ h => h) (Or.inl ⟨by rfl, ?_⟩) ?_ ?_
  rotate_left; · exact zqB
  rotate_left; · exact zqA
  refine pure_ (i := 17) (N := some 114) (v := ?_) (a' := ?_) #[true, false, true, true, false, true, true, false, false, false, false, false, false, true, true, false, false, true, false, false, false, false, false] rfl rfl (any_of HT_.out (by kernel_rfl)) (fun _ _ _ h => h) (Or.inl ⟨by rfl, ?_⟩) ?_ ?_
  rotate_left; · exact zqB
  rotate_left; · exact zqA
  refine pure_ (i := 18) (N := some 115) (v := ?_) (a' := ?_) #[true, false, true, true, false, true, true, false, false, false, false, false, false, true, true, false, false, true, true, false, false, false, false] rfl rfl (any_of HT_.out (by kernel_rfl)) (fun _ _ _ h => h) (Or.inl ⟨by rfl, ?_⟩) ?_ ?_
  rotate_left; · exact zqB
  rotate_left; · exact zqA
  refine pure_ (i := 19) (N := some 116) (v := ?_) (a' := ?_) #[true, false, true, true, false, true, true, false, false, false, false, false, false, true, true, false, false, true, true, true, false, false, false] rfl rfl (any_of HT_.out (by kernel_rfl)) (fun _ _ _ h => h) (Or.inl ⟨by rfl, ?_⟩) ?_ ?_
  rotate_left; · exact zqB
  rotate_left; · exact zqA
  refine take_ (i := 4) (N := some 101) (v := ?_) (a' := ?_) #[true, false, true, true, true, true, true, false, false, false, false, false, false, true, true, false, false, true, true, true, false, false, false] rfl rfl (take_ofW HT_.out HW_.out (by kernel_rfl)) (fun _ _ _ h => h) (Or.inl ⟨by rfl, ?_⟩) hHeld ?_ ?_
  rotate_left
  ·
   rintro w' ⟨s0, s1, s2⟩
   go_simp
   with_reducible rfl
  rotate_left; · exact zqA
  refine take_ (i := 7) (N := some 104) (v := ?_) (a' := ?_) #[true, false, true, true, true, true, true, true, false, false, false, false, false, true, true, false, false, true, true, true, false, false, false] rfl rfl (take_ofW HT_.out HW_.out (by kernel_rfl)) (fun _ _ _ h => h) (Or.inl ⟨by rfl, ?_⟩) hHeld ?_ ?_
  rotate_left
  ·
   rintro w' ⟨s0, s1, s2⟩
   go_simp
   with_reducible rfl
  rotate_left; · exact zqA
  refine pure_ (i := 8) (N := some 105) (v := ?_) (a' := ?_) #[true, false, true, true, true, true, true, true, true, false, false, false, false, true, true, false, false, true, true, true, false, false, false] rfl rfl (any_of HT_.out (by kernel_rfl)) (fun _ _ _ h => h) (Or.inl ⟨by rfl, ?_⟩) ?_ ?_
  rotate_left; · exact zqB
  rotate_left; · exact zqA
  refine pure_ (i := 9) (N := some 106) (v := ?_) (a' := ?_) #[true, false, true, true, true, true, true, true, true, true, false, false, false, true, true, false, false, true, true, true, false, false, false] rfl rfl (any_of HT_.out (by kernel_rfl)) (fun _ _ _ h => h) (Or.inl ⟨by rfl, ?_⟩) ?_ ?_
  rotate_left; · exact zqB
  rotate_left; · exact zqA
  refine pure_ (i := 10) (N := some 107) (v := ?_) (a' := ?_) #[true, false, true, true, true, true, true, true, true, true, true, false, false, true, true, false, false, true, true, true, false, false, false] rfl rfl (any_of HT_.out (by kernel_rfl)) (fun _ _ _ h => h) (Or.inl ⟨by rfl, ?_⟩) ?_ ?_
  rotate_left; · exact zqB
  rotate_left; · exact zqA
  refine take_ (i := 15) (N := some 112) (v := ?_) (a' := ?_) #[true, false, true, true, true, true, true, true, true, true, true, false, false, true, true, true, false, true, true, true, false, false, false] rfl rfl (take_ofW HT_.out HW_.out (by kernel_rfl)) (fun _ _ _ h => h) (Or.inl ⟨by rfl, ?_⟩) hHeld ?_ ?_
  rotate_left
  ·
   rintro w' ⟨s0, s1, s2⟩
   go_simp
   with_reducible rfl
  rotate_left; · exact zqA
  refine join_ (σ := Value × Value × Nat) 1 #[true, true, true, true, true, true, true, true, true, true, true, true, true, true, true, true, true, true, true, true, true, true, false] (fun s_ => [(98, s_.1), (108, .int .i64 t466), (109, s_.2.1), (113, .int .i64 t471), (15, .pointer (some ⟨s_.2.2, 0, none⟩)), (117, .agg #[.int .i64 t449, .int .i64 t466, .int .i64 t471, .int .i64 t453, .int .i64 t456, .int .i64 t459])]) (fun s_ w' => (w'.cell? ⟨ad443.block, ad443.off + 2, none⟩ = some (.string (rdOf ByteArray.empty t437 2)) ∧ w'.cell? ⟨ad443.block, ad443.off + 2, none⟩ = some (.string (rdOf ByteArray.empty t437 2)) ∧ w'.cell? ⟨ad443.block, ad443.off + 1, none⟩ = some (.string (rdOf ByteArray.empty t437 1))) ∧ (Kd.R Kd.string 9 w' w.heap.size (fun k_ => some k_ ≠ (s_.1 : Value).ownBlock ∧ some k_ ≠ (s_.2.1 : Value).ownBlock ∧ some k_ ≠ (.slice (some ad443) t437.length co51 : Value).ownBlock) (.slice (some ad455) t444.length co53) t444) ∧ (Kd.R Kd.string 9 w' w.heap.size (fun k_ => some k_ ≠ (.slice (some ad455) t444.length co53 : Value).ownBlock ∧ some k_ ≠ (s_.2.1 : Value).ownBlock ∧ some k_ ≠ (.slice (some ad443) t437.length co51 : Value).ownBlock) s_.1 t461) ∧ (Kd.R Kd.string 9 w' w.heap.size (fun k_ => some k_ ≠ (.slice (some ad455) t444.length co53 : Value).ownBlock ∧ some k_ ≠ (s_.1 : Value).ownBlock ∧ some k_ ≠ (.slice (some ad443) t437.length co51 : Value).ownBlock) s_.2.1 t467) ∧ (Kd.R Kd.string 9 w' w.heap.size (fun k_ => some k_ ≠ (.slice (some ad455) t444.length co53 : Value).ownBlock ∧ some k_ ≠ (s_.1 : Value).ownBlock ∧ some k_ ≠ (s_.2.1 : Value).ownBlock) (.slice (some ad443) t437.length co51) t437) ∧ (w'.heap[gb435]? = some (.cells #[.int .i64 0, .int .i64 0, .int .i64 0, .int .i64 0, .int .i64 0, .int .i64 0] 23 (0, 0))) ∧ (w'.heap[gb436]? = some (.cells #[.int .i64 0, .int .i64 0, .int .i64 0, .int .i64 0, .int .i64 0, .int .i64 0] 23 (0, 0))) ∧ (w'.heap[s_.2.2]? = some (.cells #[.int .i64 0, .int .i64 0, .int .i64 0, .int .i64 0, .int .i64 0, .int .i64 0] 23 (0, 0))) ∧ (w.heap.size ≤ s_.2.2) ∧ (w.heap.size ≤ s_.2.2) ∧ (gb435 ≠ s_.2.2) ∧ (s_.2.2 ≠ gb435) ∧ (gb436 ≠ s_.2.2) ∧ (s_.2.2 ≠ gb436) ∧ (Below w.heap.size w w')) ?_ ?_
  rotate_left
  ·
   intro hJ1_11_12_16_21
   refine join_ (σ := Value × Value) 2 #[true, true, true, true, true, true, true, true, true, true, true, true, true, true, true, true, true, true, true, true, true, false, false] (fun s_ => [(98, s_.1), (108, .int .i64 t466), (109, s_.2), (113, .int .i64 t471), (117, .agg #[.int .i64 t449, .int .i64 t466, .int .i64 t471, .int .i64 t453, .int .i64 t456, .int .i64 t459])]) (fun s_ w' => (w'.cell? ⟨ad443.block, ad443.off + 2, none⟩ = some (.string (rdOf ByteArray.empty t437 2)) ∧ w'.cell? ⟨ad443.block, ad443.off + 2, none⟩ = some (.string (rdOf ByteArray.empty t437 2)) ∧ w'.cell? ⟨ad443.block, ad443.off + 1, none⟩ = some (.string (rdOf ByteArray.empty t437 1))) ∧ (Kd.R Kd.string 9 w' w.heap.size (fun k_ => some k_ ≠ (s_.1 : Value).ownBlock ∧ some k_ ≠ (s_.2 : Value).ownBlock ∧ some k_ ≠ (.slice (some ad443) t437.length co51 : Value).ownBlock) (.slice (some ad455) t444.length co53) t444) ∧ (Kd.R Kd.string 9 w' w.heap.size (fun k_ => some k_ ≠ (.slice (some ad455) t444.length co53 : Value).ownBlock ∧ some k_ ≠ (s_.2 : Value).ownBlock ∧ some k_ ≠ (.slice (some ad443) t437.length co51 : Value).ownBlock) s_.1 t461) ∧ (Kd.R Kd.string 9 w' w.heap.size (fun k_ => some k_ ≠ (.slice (some ad455) t444.length co53 : Value).ownBlock ∧ some k_ ≠ (s_.1 : Value).ownBlock ∧ some k_ ≠ (.slice (some ad443) t437.length co51 : Value).ownBlock) s_.2 t467) ∧ (Kd.R Kd.string 9 w' w.heap.size (fun k_ => some k_ ≠ (.slice (some ad455) t444.length co53 : Value).ownBlock ∧ some k_ ≠ (s_.1 : Value).ownBlock ∧ some k_ ≠ (s_.2 : Value).ownBlock) (.slice (some ad443) t437.length co51) t437) ∧ (w'.heap[gb435]? = some (.cells #[.int .i64 0, .int .i64 0, .int .i64 0, .int .i64 0, .int .i64 0, .int .i64 0] 23 (0, 0))) ∧ (w'.heap[gb436]? = some (.cells #[.int .i64 0, .int .i64 0, .int .i64 0, .int .i64 0, .int .i64 0, .int .i64 0] 23 (0, 0))) ∧ (Below w.heap.size w w')) ?_ ?_
   rotate_left
   ·
    intro hJ1_11_12_16
    refine join_ (σ := Value × Value × Nat) 3 #[true, true, true, true, true, true, true, true, true, true, true, true, true, true, true, true, false, true, true, true, false, true, false] (fun s_ => [(98, s_.1), (108, .int .i64 t466), (109, s_.2.1), (15, .pointer (some ⟨s_.2.2, 0, none⟩))]) (fun s_ w' => (w'.cell? ⟨ad443.block, ad443.off + 2, none⟩ = some (.string (rdOf ByteArray.empty t437 2)) ∧ w'.cell? ⟨ad443.block, ad443.off + 2, none⟩ = some (.string (rdOf ByteArray.empty t437 2)) ∧ w'.cell? ⟨ad443.block, ad443.off + 1, none⟩ = some (.string (rdOf ByteArray.empty t437 1))) ∧ (Kd.R Kd.string 9 w' w.heap.size (fun k_ => some k_ ≠ (s_.1 : Value).ownBlock ∧ some k_ ≠ (s_.2.1 : Value).ownBlock ∧ some k_ ≠ (.slice (some ad443) t437.length co51 : Value).ownBlock) (.slice (some ad455) t444.length co53) t444) ∧ (Kd.R Kd.string 9 w' w.heap.size (fun k_ => some k_ ≠ (.slice (some ad455) t444.length co53 : Value).ownBlock ∧ some k_ ≠ (s_.2.1 : Value).ownBlock ∧ some k_ ≠ (.slice (some ad443) t437.length co51 : Value).ownBlock) s_.1 t461) ∧ (Kd.R Kd.string 9 w' w.heap.size (fun k_ => some k_ ≠ (.slice (some ad455) t444.length co53 : Value).ownBlock ∧ some k_ ≠ (s_.1 : Value).ownBlock ∧ some k_ ≠ (.slice (some ad443) t437.length co51 : Value).ownBlock) s_.2.1 t467) ∧ (Kd.R Kd.string 9 w' w.heap.size (fun k_ => some k_ ≠ (.slice (some ad455) t444.length co53 : Value).ownBlock ∧ some k_ ≠ (s_.1 : Value).ownBlock ∧ some k_ ≠ (s_.2.1 : Value).ownBlock) (.slice (some ad443) t437.length co51) t437) ∧ (w'.heap[gb435]? = some (.cells #[.int .i64 0, .int .i64 0, .int .i64 0, .int .i64 0, .int .i64 0, .int .i64 0] 23 (0, 0))) ∧ (w'.heap[gb436]? = some (.cells #[.int .i64 0, .int .i64 0, .int .i64 0, .int .i64 0, .int .i64 0, .int .i64 0] 23 (0, 0))) ∧ (w'.heap[s_.2.2]? = some (.cells #[.int .i64 0, .int .i64 0, .int .i64 0, .int .i64 0, .int .i64 0, .int .i64 0] 23 (0, 0))) ∧ (w.heap.size ≤ s_.2.2) ∧ (w.heap.size ≤ s_.2.2) ∧ (gb435 ≠ s_.2.2) ∧ (s_.2.2 ≠ gb435) ∧ (gb436 ≠ s_.2.2) ∧ (s_.2.2 ≠ gb436) ∧ (Below w.heap.size w w')) ?_ ?_
    rotate_left
    ·
     intro hJ1_11_12_21
     refine join_ (σ := Value × Value) 4 #[true, true, true, true, true, true, true, true, true, true, true, true, true, true, true, true, false, true, true, true, false, false, false] (fun s_ => [(98, s_.1), (108, .int .i64 t466), (109, s_.2)]) (fun s_ w' => (w'.cell? ⟨ad443.block, ad443.off + 2, none⟩ = some (.string (rdOf ByteArray.empty t437 2)) ∧ w'.cell? ⟨ad443.block, ad443.off + 2, none⟩ = some (.string (rdOf ByteArray.empty t437 2)) ∧ w'.cell? ⟨ad443.block, ad443.off + 1, none⟩ = some (.string (rdOf ByteArray.empty t437 1))) ∧ (Kd.R Kd.string 9 w' w.heap.size (fun k_ => some k_ ≠ (s_.1 : Value).ownBlock ∧ some k_ ≠ (s_.2 : Value).ownBlock ∧ some k_ ≠ (.slice (some ad443) t437.length co51 : Value).ownBlock) (.slice (some ad455) t444.length co53) t444) ∧ (Kd.R Kd.string 9 w' w.heap.size (fun k_ => some k_ ≠ (.slice (some ad455) t444.length co53 : Value).ownBlock ∧ some k_ ≠ (s_.2 : Value).ownBlock ∧ some k_ ≠ (.slice (some ad443) t437.length co51 : Value).ownBlock) s_.1 t461) ∧ (Kd.R Kd.string 9 w' w.heap.size (fun k_ => some k_ ≠ (.slice (some ad455) t444.length co53 : Value).ownBlock ∧ some k_ ≠ (s_.1 : Value).ownBlock ∧ some k_ ≠ (.slice (some ad443) t437.length co51 : Value).ownBlock) s_.2 t467) ∧ (Kd.R Kd.string 9 w' w.heap.size (fun k_ => some k_ ≠ (.slice (some ad455) t444.length co53 : Value).ownBlock ∧ some k_ ≠ (s_.1 : Value).ownBlock ∧ some k_ ≠ (s_.2 : Value).ownBlock) (.slice (some ad443) t437.length co51) t437) ∧ (w'.heap[gb435]? = some (.cells #[.int .i64 0, .int .i64 0, .int .i64 0, .int .i64 0, .int .i64 0, .int .i64 0] 23 (0, 0))) ∧ (w'.heap[gb436]? = some (.cells #[.int .i64 0, .int .i64 0, .int .i64 0, .int .i64 0, .int .i64 0, .int .i64 0] 23 (0, 0))) ∧ (Below w.heap.size w w')) ?_ ?_
     rotate_left
     ·
      intro hJ1_11_12
      refine join_ (σ := Value × Nat) 4 #[true, true, true, true, true, true, true, true, true, true, true, true, false, true, true, true, false, true, true, true, false, true, false] (fun s_ => [(98, s_.1), (108, .int .i64 t466), (15, .pointer (some ⟨s_.2, 0, none⟩))]) (fun s_ w' => (w'.cell? ⟨ad443.block, ad443.off + 2, none⟩ = some (.string (rdOf ByteArray.empty t437 2)) ∧ w'.cell? ⟨ad443.block, ad443.off + 2, none⟩ = some (.string (rdOf ByteArray.empty t437 2)) ∧ w'.cell? ⟨ad443.block, ad443.off + 1, none⟩ = some (.string (rdOf ByteArray.empty t437 1))) ∧ (Kd.R Kd.string 9 w' w.heap.size (fun k_ => some k_ ≠ (s_.1 : Value).ownBlock ∧ some k_ ≠ (.slice (some ad443) t437.length co51 : Value).ownBlock) (.slice (some ad455) t444.length co53) t444) ∧ (Kd.R Kd.string 9 w' w.heap.size (fun k_ => some k_ ≠ (.slice (some ad455) t444.length co53 : Value).ownBlock ∧ some k_ ≠ (.slice (some ad443) t437.length co51 : Value).ownBlock) s_.1 t461) ∧ (Kd.R Kd.string 9 w' w.heap.size (fun k_ => some k_ ≠ (.slice (some ad455) t444.length co53 : Value).ownBlock ∧ some k_ ≠ (s_.1 : Value).ownBlock) (.slice (some ad443) t437.length co51) t437) ∧ (w'.heap[gb435]? = some (.cells #[.int .i64 0, .int .i64 0, .int .i64 0, .int .i64 0, .int .i64 0, .int .i64 0] 23 (0, 0))) ∧ (w'.heap[gb436]? = some (.cells #[.int .i64 0, .int .i64 0, .int .i64 0, .int .i64 0, .int .i64 0, .int .i64 0] 23 (0, 0))) ∧ (w'.heap[s_.2]? = some (.cells #[.int .i64 0, .int .i64 0, .int .i64 0, .int .i64 0, .int .i64 0, .int .i64 0] 23 (0, 0))) ∧ (w.heap.size ≤ s_.2) ∧ (w.heap.size ≤ s_.2) ∧ (gb435 ≠ s_.2) ∧ (s_.2 ≠ gb435) ∧ (gb436 ≠ s_.2) ∧ (s_.2 ≠ gb436) ∧ (Below w.heap.size w w')) ?_ ?_
      rotate_left
      ·
       intro hJ1_11_21
       refine join_ (σ := Value) 5 #[true, true, true, true, true, true, true, true, true, true, true, true, false, true, true, true, false, true, true, true, false, false, false] (fun s_ => [(98, s_), (108, .int .i64 t466)]) (fun s_ w' => (w'.cell? ⟨ad443.block, ad443.off + 2, none⟩ = some (.string (rdOf ByteArray.empty t437 2)) ∧ w'.cell? ⟨ad443.block, ad443.off + 2, none⟩ = some (.string (rdOf ByteArray.empty t437 2)) ∧ w'.cell? ⟨ad443.block, ad443.off + 1, none⟩ = some (.string (rdOf ByteArray.empty t437 1))) ∧ (Kd.R Kd.string 9 w' w.heap.size (fun k_ => some k_ ≠ (s_ : Value).ownBlock ∧ some k_ ≠ (.slice (some ad443) t437.length co51 : Value).ownBlock) (.slice (some ad455) t444.length co53) t444) ∧ (Kd.R Kd.string 9 w' w.heap.size (fun k_ => some k_ ≠ (.slice (some ad455) t444.length co53 : Value).ownBlock ∧ some k_ ≠ (.slice (some ad443) t437.length co51 : Value).ownBlock) s_ t461) ∧ (Kd.R Kd.string 9 w' w.heap.size (fun k_ => some k_ ≠ (.slice (some ad455) t444.length co53 : Value).ownBlock ∧ some k_ ≠ (s_ : Value).ownBlock) (.slice (some ad443) t437.length co51) t437) ∧ (w'.heap[gb435]? = some (.cells #[.int .i64 0, .int .i64 0, .int .i64 0, .int .i64 0, .int .i64 0, .int .i64 0] 23 (0, 0))) ∧ (w'.heap[gb436]? = some (.cells #[.int .i64 0, .int .i64 0, .int .i64 0, .int .i64 0, .int .i64 0, .int .i64 0] 23 (0, 0))) ∧ (Below w.heap.size w w')) ?_ ?_
       rotate_left
       ·
        intro hJ1_11
        refine join_ (σ := Value × Nat) 5 #[true, true, true, true, true, true, true, true, true, true, true, false, false, true, true, true, false, true, true, true, false, true, false] (fun s_ => [(98, s_.1), (15, .pointer (some ⟨s_.2, 0, none⟩))]) (fun s_ w' => (w'.cell? ⟨ad443.block, ad443.off + 2, none⟩ = some (.string (rdOf ByteArray.empty t437 2)) ∧ w'.cell? ⟨ad443.block, ad443.off + 2, none⟩ = some (.string (rdOf ByteArray.empty t437 2)) ∧ w'.cell? ⟨ad443.block, ad443.off + 1, none⟩ = some (.string (rdOf ByteArray.empty t437 1))) ∧ (Kd.R Kd.string 9 w' w.heap.size (fun k_ => some k_ ≠ (s_.1 : Value).ownBlock ∧ some k_ ≠ (.slice (some ad443) t437.length co51 : Value).ownBlock) (.slice (some ad455) t444.length co53) t444) ∧ (Kd.R Kd.string 9 w' w.heap.size (fun k_ => some k_ ≠ (.slice (some ad455) t444.length co53 : Value).ownBlock ∧ some k_ ≠ (.slice (some ad443) t437.length co51 : Value).ownBlock) s_.1 t461) ∧ (Kd.R Kd.string 9 w' w.heap.size (fun k_ => some k_ ≠ (.slice (some ad455) t444.length co53 : Value).ownBlock ∧ some k_ ≠ (s_.1 : Value).ownBlock) (.slice (some ad443) t437.length co51) t437) ∧ (w'.heap[gb435]? = some (.cells #[.int .i64 0, .int .i64 0, .int .i64 0, .int .i64 0, .int .i64 0, .int .i64 0] 23 (0, 0))) ∧ (w'.heap[gb436]? = some (.cells #[.int .i64 0, .int .i64 0, .int .i64 0, .int .i64 0, .int .i64 0, .int .i64 0] 23 (0, 0))) ∧ (w'.heap[s_.2]? = some (.cells #[.int .i64 0, .int .i64 0, .int .i64 0, .int .i64 0, .int .i64 0, .int .i64 0] 23 (0, 0))) ∧ (w.heap.size ≤ s_.2) ∧ (w.heap.size ≤ s_.2) ∧ (gb435 ≠ s_.2) ∧ (s_.2 ≠ gb435) ∧ (gb436 ≠ s_.2) ∧ (s_.2 ≠ gb436) ∧ (Below w.heap.size w w')) ?_ ?_
        rotate_left
        ·
         intro hJ1_21
         refine join_ (σ := Value) 6 #[true, true, true, true, true, true, true, true, true, true, true, false, false, true, true, true, false, true, true, true, false, false, false] (fun s_ => [(98, s_)]) (fun s_ w' => (w'.cell? ⟨ad443.block, ad443.off + 2, none⟩ = some (.string (rdOf ByteArray.empty t437 2)) ∧ w'.cell? ⟨ad443.block, ad443.off + 2, none⟩ = some (.string (rdOf ByteArray.empty t437 2)) ∧ w'.cell? ⟨ad443.block, ad443.off + 1, none⟩ = some (.string (rdOf ByteArray.empty t437 1))) ∧ (Kd.R Kd.string 9 w' w.heap.size (fun k_ => some k_ ≠ (s_ : Value).ownBlock ∧ some k_ ≠ (.slice (some ad443) t437.length co51 : Value).ownBlock) (.slice (some ad455) t444.length co53) t444) ∧ (Kd.R Kd.string 9 w' w.heap.size (fun k_ => some k_ ≠ (.slice (some ad455) t444.length co53 : Value).ownBlock ∧ some k_ ≠ (.slice (some ad443) t437.length co51 : Value).ownBlock) s_ t461) ∧ (Kd.R Kd.string 9 w' w.heap.size (fun k_ => some k_ ≠ (.slice (some ad455) t444.length co53 : Value).ownBlock ∧ some k_ ≠ (s_ : Value).ownBlock) (.slice (some ad443) t437.length co51) t437) ∧ (w'.heap[gb435]? = some (.cells #[.int .i64 0, .int .i64 0, .int .i64 0, .int .i64 0, .int .i64 0, .int .i64 0] 23 (0, 0))) ∧ (w'.heap[gb436]? = some (.cells #[.int .i64 0, .int .i64 0, .int .i64 0, .int .i64 0, .int .i64 0, .int .i64 0] 23 (0, 0))) ∧ (Below w.heap.size w w')) ?_ ?_
         rotate_left
         ·
          intro hJ1
          refine join_ (σ := Nat) 6 #[true, false, true, true, true, true, true, true, true, true, true, false, false, true, true, true, false, true, true, true, false, true, false] (fun s_ => [(15, .pointer (some ⟨s_, 0, none⟩))]) (fun s_ w' => (w'.cell? ⟨ad443.block, ad443.off + 2, none⟩ = some (.string (rdOf ByteArray.empty t437 2)) ∧ w'.cell? ⟨ad443.block, ad443.off + 2, none⟩ = some (.string (rdOf ByteArray.empty t437 2)) ∧ w'.cell? ⟨ad443.block, ad443.off + 1, none⟩ = some (.string (rdOf ByteArray.empty t437 1))) ∧ (Kd.R Kd.string 9 w' w.heap.size (fun k_ => some k_ ≠ (.slice (some ad443) t437.length co51 : Value).ownBlock) (.slice (some ad455) t444.length co53) t444) ∧ (Kd.R Kd.string 9 w' w.heap.size (fun k_ => some k_ ≠ (.slice (some ad455) t444.length co53 : Value).ownBlock) (.slice (some ad443) t437.length co51) t437) ∧ (w'.heap[gb435]? = some (.cells #[.int .i64 0, .int .i64 0, .int .i64 0, .int .i64 0, .int .i64 0, .int .i64 0] 23 (0, 0))) ∧ (w'.heap[gb436]? = some (.cells #[.int .i64 0, .int .i64 0, .int .i64 0, .int .i64 0, .int .i64 0, .int .i64 0] 23 (0, 0))) ∧ (w'.heap[s_]? = some (.cells #[.int .i64 0, .int .i64 0, .int .i64 0, .int .i64 0, .int .i64 0, .int .i64 0] 23 (0, 0))) ∧ (w.heap.size ≤ s_) ∧ (w.heap.size ≤ s_) ∧ (gb435 ≠ s_) ∧ (s_ ≠ gb435) ∧ (gb436 ≠ s_) ∧ (s_ ≠ gb436) ∧ (Below w.heap.size w w')) ?_ ?_
          rotate_left
          ·
           intro hJ21
           refine two_ (i := 1) (j := 21) (Ni := some 98) (Nj := some 15) #[true, true, true, true, true, true, true, true, true, true, true, false, false, true, true, true, false, true, true, true, false, false, false] #[true, false, true, true, true, true, true, true, true, true, true, false, false, true, true, true, false, true, true, true, false, true, false] rfl rfl rfl rfl (two_of HT_.out (by kernel_rfl)) (by decide) (by decide) (fun K hK => ?_) (fun K hK => ?_)
           ·
            skip
            refine goes_ Tryd.func66 (by kernel_rfl) rfl #[] (by rfl) rfl rfl zq2 ?_
            with_reducible refine (spec_l17Topics.calls  t461 _ A41.out).mono ?_
            rintro e w61 ⟨v462, rfl, ho0, hb⟩
            have HS0_ := (hb.cell (World.block_lt_of_cell? _ _ (hHeld.1))).trans (hHeld.1)
            have HS1_ := (hb.cell (World.block_lt_of_cell? _ _ (hHeld.2.1))).trans (hHeld.2.1)
            have HS2_ := (hb.cell (World.block_lt_of_cell? _ _ (hHeld.2.2))).trans (hHeld.2.2)
            refine ⟨_, rfl, ?_⟩
            have n0_ := Aside0.mk (Kd.R_elder' (zqR HO_5.out) (Kd.R_base ho0) hb)
            have n1_ := Aside0.mk (Kd.R_elder' (zqR HO446.out) (Kd.R_base ho0) hb)
            have n2_ := Aside0.mk (Kd.R_lower (Kd.R_new' (Kd.R_new' ho0 (Kd.R_lt (zqR HO_5.out))) (Kd.R_lt (zqR HO446.out))) (below_size zq3))
            have n3_ := Aside0.mk (blk_below (g := gb435) (o := .cells #[.int .i64 0, .int .i64 0, .int .i64 0, .int .i64 0, .int .i64 0, .int .i64 0] 23 (0, 0)) (zqK BK435.out) hb)
            have n4_ := Aside0.mk (blk_below (g := gb436) (o := .cells #[.int .i64 0, .int .i64 0, .int .i64 0, .int .i64 0, .int .i64 0, .int .i64 0] 23 (0, 0)) (zqK BK436.out) hb)
            have n5_ := Aside0.mk (below_step zq3 hb)
            clear HO_5
            clear HO446
            clear BK435
            clear BK436
            clear HB
            have HO_5 := n0_
            have HO446 := n1_
            have HO463 := n2_
            have BK435 := n3_
            have BK436 := n4_
            have HB := n5_
            clear n0_ n1_ n2_ n3_ n4_ n5_
            (try clear hb)
            (try clear hb2)
            (try clear hk)
            (try clear hi)
            (try clear ho0)
            refine hK.out _ _ ⟨HS0_, HS1_, HS2_⟩ (fun hHeld => ?_)
            clear hK K
            refine norm_ (a' := ?_) ?_ ?_
            rotate_left
            ·
             show Act.put _ (some 98) _ = _
             simp only [Act.put, List.setIfInBounds_toArray, List.set_cons_zero, List.set_cons_succ, i64_w, i32_w]
             rfl
            exact norm_ (by first | (simp only [putAll, Act.put, List.setIfInBounds_toArray, List.set_cons_zero, List.set_cons_succ]; done) | (simp only [putAll, Act.put, List.setIfInBounds_toArray, List.set_cons_zero, List.set_cons_succ]; rfl)) (hJ1 (v462) _ ⟨hHeld, (by (with_reducible repeat (first | apply Kd.R_alloc | apply Kd.R_drewN | apply Kd.R_drew)); exact Kd.R_mono HO446.out (fun _ hk => ⟨hk.2, hk.1.2⟩)), (by (with_reducible repeat (first | apply Kd.R_alloc | apply Kd.R_drewN | apply Kd.R_drew)); exact Kd.R_mono HO463.out (fun _ hk => ⟨hk.2, hk.1.2⟩)), (by (with_reducible repeat (first | apply Kd.R_alloc | apply Kd.R_drewN | apply Kd.R_drew)); exact Kd.R_mono HO_5.out (fun _ hk => ⟨hk.1.2, hk.2⟩)), (zqK BK435.out), (zqK BK436.out), zq3⟩)
           ·
            skip
            refine box_step ?hg (N := 15) ?hd (cs := #[.int .i64 0, .int .i64 0, .int .i64 0, .int .i64 0, .int .i64 0, .int .i64 0]) (t := 23) ?hr ?_; (case hd => rfl); (case hg => rfl); (case hr => exact zqS)
            intro gb472 hg w61 hbox hb
            have HS0_ := (hb.cell (World.block_lt_of_cell? _ _ (hHeld.1))).trans (hHeld.1)
            have HS1_ := (hb.cell (World.block_lt_of_cell? _ _ (hHeld.2.1))).trans (hHeld.2.1)
            have HS2_ := (hb.cell (World.block_lt_of_cell? _ _ (hHeld.2.2))).trans (hHeld.2.2)
            have n0_ := Aside0.mk (Kd.R_below (zqR HO_5.out) hb)
            have n1_ := Aside0.mk (Kd.R_below (zqR HO446.out) hb)
            have n2_ := Aside0.mk (blk_below (g := gb435) (o := .cells #[.int .i64 0, .int .i64 0, .int .i64 0, .int .i64 0, .int .i64 0, .int .i64 0] 23 (0, 0)) (zqK BK435.out) hb)
            have n3_ := Aside0.mk (blk_below (g := gb436) (o := .cells #[.int .i64 0, .int .i64 0, .int .i64 0, .int .i64 0, .int .i64 0, .int .i64 0] 23 (0, 0)) (zqK BK436.out) hb)
            have n4_ := Aside0.mk (below_step zq3 hb)
            have n5_ := Aside0.mk (hbox)
            have n6_ := Aside0.mk ((by rw [hg]; exact (below_size zq3) : w.heap.size ≤ gb472))
            have n7_ := Aside0.mk ((by rw [hg]; exact (below_size zq3) : w.heap.size ≤ gb472))
            have n8_ := Aside0.mk ((by rw [hg]; exact Nat.ne_of_lt (blk_lt (g := gb435) (o := .cells #[.int .i64 0, .int .i64 0, .int .i64 0, .int .i64 0, .int .i64 0, .int .i64 0] 23 (0, 0)) (zqK BK435.out)) : gb435 ≠ gb472))
            have n9_ := Aside0.mk ((by rw [hg]; exact Nat.ne_of_gt (blk_lt (g := gb435) (o := .cells #[.int .i64 0, .int .i64 0, .int .i64 0, .int .i64 0, .int .i64 0, .int .i64 0] 23 (0, 0)) (zqK BK435.out)) : gb472 ≠ gb435))
            have n10_ := Aside0.mk ((by rw [hg]; exact Nat.ne_of_lt (blk_lt (g := gb436) (o := .cells #[.int .i64 0, .int .i64 0, .int .i64 0, .int .i64 0, .int .i64 0, .int .i64 0] 23 (0, 0)) (zqK BK436.out)) : gb436 ≠ gb472))
            have n11_ := Aside0.mk ((by rw [hg]; exact Nat.ne_of_gt (blk_lt (g := gb436) (o := .cells #[.int .i64 0, .int .i64 0, .int .i64 0, .int .i64 0, .int .i64 0, .int .i64 0] 23 (0, 0)) (zqK BK436.out)) : gb472 ≠ gb436))
            clear HO_5
            clear HO446
            clear BK435
            clear BK436
            clear HB
            have HO_5 := n0_
            have HO446 := n1_
            have BK435 := n2_
            have BK436 := n3_
            have HB := n4_
            have BK472 := n5_
            have GW472 := n6_
            have GE472 := n7_
            have NB435_472 := n8_
            have NB472_435 := n9_
            have NB436_472 := n10_
            have NB472_436 := n11_
            clear n0_ n1_ n2_ n3_ n4_ n5_ n6_ n7_ n8_ n9_ n10_ n11_
            clear hb hbox hg
            refine hK.out _ _ ⟨HS0_, HS1_, HS2_⟩ (fun hHeld => ?_)
            clear hK K
            refine norm_ (a' := ?_) ?_ ?_
            rotate_left
            ·
             show Act.put _ (some 15) _ = _
             simp only [Act.put, List.setIfInBounds_toArray, List.set_cons_zero, List.set_cons_succ, i64_w, i32_w]
             rfl
            exact norm_ (by first | (simp only [putAll, Act.put, List.setIfInBounds_toArray, List.set_cons_zero, List.set_cons_succ]; done) | (simp only [putAll, Act.put, List.setIfInBounds_toArray, List.set_cons_zero, List.set_cons_succ]; rfl)) (hJ21 (gb472) _ ⟨hHeld, (by (with_reducible repeat (first | apply Kd.R_alloc | apply Kd.R_drewN | apply Kd.R_drew)); exact Kd.R_mono HO446.out (fun _ hk => hk.2)), (by (with_reducible repeat (first | apply Kd.R_alloc | apply Kd.R_drewN | apply Kd.R_drew)); exact Kd.R_mono HO_5.out (fun _ hk => hk.2)), (zqK BK435.out), (zqK BK436.out), (zqK BK472.out), GW472.out, GE472.out, NB435_472.out, NB472_435.out, NB436_472.out, NB472_436.out, zq5⟩)
          ·
           skip
           rintro gb472 w62 ⟨hS_, h0_, h1_, h2_, h3_, h4_, h5_, h6_, h7_, h8_, h9_, h10_, h11_⟩
           have n0_ : Aside0 (Kd.R Kd.string 9 w62 w.heap.size (fun k_ => some k_ ≠ (.slice (some ad443) t437.length co51 : Value).ownBlock) (.slice (some ad455) t444.length co53) t444) := ⟨h0_⟩
           have n1_ : Aside0 (Kd.R Kd.string 9 w62 w.heap.size (fun k_ => some k_ ≠ (.slice (some ad455) t444.length co53 : Value).ownBlock) (.slice (some ad443) t437.length co51) t437) := ⟨h1_⟩
           have n2_ : Aside0 (w62.heap[gb435]? = some (.cells #[.int .i64 0, .int .i64 0, .int .i64 0, .int .i64 0, .int .i64 0, .int .i64 0] 23 (0, 0))) := ⟨h2_⟩
           have n3_ : Aside0 (w62.heap[gb436]? = some (.cells #[.int .i64 0, .int .i64 0, .int .i64 0, .int .i64 0, .int .i64 0, .int .i64 0] 23 (0, 0))) := ⟨h3_⟩
           have n4_ : Aside0 (w62.heap[gb472]? = some (.cells #[.int .i64 0, .int .i64 0, .int .i64 0, .int .i64 0, .int .i64 0, .int .i64 0] 23 (0, 0))) := ⟨h4_⟩
           have n5_ : Aside0 (w.heap.size ≤ gb472) := ⟨h5_⟩
           have n6_ : Aside0 (w.heap.size ≤ gb472) := ⟨h6_⟩
           have n7_ : Aside0 (gb435 ≠ gb472) := ⟨h7_⟩
           have n8_ : Aside0 (gb472 ≠ gb435) := ⟨h8_⟩
           have n9_ : Aside0 (gb436 ≠ gb472) := ⟨h9_⟩
           have n10_ : Aside0 (gb472 ≠ gb436) := ⟨h10_⟩
           have n11_ : Aside0 (Below w.heap.size w w62) := ⟨h11_⟩
           clear HO_5
           clear HO446
           clear BK435
           clear BK436
           clear HB
           clear h0_ h1_ h2_ h3_ h4_ h5_ h6_ h7_ h8_ h9_ h10_ h11_
           have HO446 := n0_
           have HO_5 := n1_
           have BK435 := n2_
           have BK436 := n3_
           have BK472 := n4_
           have GW472 := n5_
           have GE472 := n6_
           have NB435_472 := n7_
           have NB472_435 := n8_
           have NB436_472 := n9_
           have NB472_436 := n10_
           have HB := n11_
           clear n0_ n1_ n2_ n3_ n4_ n5_ n6_ n7_ n8_ n9_ n10_ n11_
           have hHeld : w62.cell? ⟨ad443.block, ad443.off + 2, none⟩ = some (.string (rdOf ByteArray.empty t437 2)) ∧ w62.cell? ⟨ad443.block, ad443.off + 2, none⟩ = some (.string (rdOf ByteArray.empty t437 2)) ∧ w62.cell? ⟨ad443.block, ad443.off + 1, none⟩ = some (.string (rdOf ByteArray.empty t437 1)) := hS_
           refine norm_ (a' := ?_) ?_ ?_
           rotate_left
           ·
            simp only [putAll, Act.put, List.setIfInBounds_toArray, List.set_cons_zero, List.set_cons_succ]
            rfl
           refine one_ (i := 1) (N := some 98) #[true, true, true, true, true, true, true, true, true, true, true, false, false, true, true, true, false, true, true, true, false, true, false] rfl rfl (one_of HT_.out (by kernel_rfl)) (by decide) (fun K hK => ?_)
           refine goes_ Tryd.func66 (by kernel_rfl) rfl #[] (by rfl) rfl rfl zq2 ?_
           with_reducible refine (spec_l17Topics.calls  t461 _ A41.out).mono ?_
           rintro e w63 ⟨v462, rfl, ho0, hb⟩
           have HS0_ := (hb.cell (World.block_lt_of_cell? _ _ (hHeld.1))).trans (hHeld.1)
           have HS1_ := (hb.cell (World.block_lt_of_cell? _ _ (hHeld.2.1))).trans (hHeld.2.1)
           have HS2_ := (hb.cell (World.block_lt_of_cell? _ _ (hHeld.2.2))).trans (hHeld.2.2)
           refine ⟨_, rfl, ?_⟩
           have n0_ := Aside0.mk (Kd.R_elder' (zqR HO_5.out) (Kd.R_base ho0) hb)
           have n1_ := Aside0.mk (Kd.R_elder' (zqR HO446.out) (Kd.R_base ho0) hb)
           have n2_ := Aside0.mk (Kd.R_lower (Kd.R_new' (Kd.R_new' ho0 (Kd.R_lt (zqR HO_5.out))) (Kd.R_lt (zqR HO446.out))) (below_size zq5))
           have n3_ := Aside0.mk (blk_below (g := gb435) (o := .cells #[.int .i64 0, .int .i64 0, .int .i64 0, .int .i64 0, .int .i64 0, .int .i64 0] 23 (0, 0)) (zqK BK435.out) hb)
           have n4_ := Aside0.mk (blk_below (g := gb436) (o := .cells #[.int .i64 0, .int .i64 0, .int .i64 0, .int .i64 0, .int .i64 0, .int .i64 0] 23 (0, 0)) (zqK BK436.out) hb)
           have n5_ := Aside0.mk (blk_below (g := gb472) (o := .cells #[.int .i64 0, .int .i64 0, .int .i64 0, .int .i64 0, .int .i64 0, .int .i64 0] 23 (0, 0)) (zqK BK472.out) hb)
           have n6_ := Aside0.mk (below_step zq5 hb)
           clear HO_5
           clear HO446
           clear BK435
           clear BK436
           clear BK472
           clear HB
           have HO_5 := n0_
           have HO446 := n1_
           have HO463 := n2_
           have BK435 := n3_
           have BK436 := n4_
           have BK472 := n5_
           have HB := n6_
           clear n0_ n1_ n2_ n3_ n4_ n5_ n6_
           (try clear hb)
           (try clear hb2)
           (try clear hk)
           (try clear hi)
           (try clear ho0)
           refine hK.out _ _ ⟨HS0_, HS1_, HS2_⟩ (fun hHeld => ?_)
           clear hK K
           refine norm_ (a' := ?_) ?_ ?_
           rotate_left
           ·
            show Act.put _ (some 98) _ = _
            simp only [Act.put, List.setIfInBounds_toArray, List.set_cons_zero, List.set_cons_succ, i64_w, i32_w]
            rfl
           exact norm_ (by first | (simp only [putAll, Act.put, List.setIfInBounds_toArray, List.set_cons_zero, List.set_cons_succ]; done) | (simp only [putAll, Act.put, List.setIfInBounds_toArray, List.set_cons_zero, List.set_cons_succ]; rfl)) (hJ1_21 (_, gb472) _ ⟨hHeld, (by (with_reducible repeat (first | apply Kd.R_alloc | apply Kd.R_drewN | apply Kd.R_drew)); exact Kd.R_mono HO446.out (fun _ hk => ⟨hk.2, hk.1⟩)), (by (with_reducible repeat (first | apply Kd.R_alloc | apply Kd.R_drewN | apply Kd.R_drew)); exact Kd.R_mono HO463.out (fun _ hk => ⟨hk.2, hk.1.2⟩)), (zqR HO_5.out), (zqK BK435.out), (zqK BK436.out), (zqK BK472.out), GW472.out, GE472.out, NB435_472.out, NB472_435.out, NB436_472.out, NB472_436.out, zq5⟩)
         ·
          skip
          rintro v462 w62 ⟨hS_, h0_, h1_, h2_, h3_, h4_, h5_⟩
          have n0_ : Aside0 (Kd.R Kd.string 9 w62 w.heap.size (fun k_ => some k_ ≠ (v462 : Value).ownBlock ∧ some k_ ≠ (.slice (some ad443) t437.length co51 : Value).ownBlock) (.slice (some ad455) t444.length co53) t444) := ⟨h0_⟩
          have n1_ : Aside0 (Kd.R Kd.string 9 w62 w.heap.size (fun k_ => some k_ ≠ (.slice (some ad455) t444.length co53 : Value).ownBlock ∧ some k_ ≠ (.slice (some ad443) t437.length co51 : Value).ownBlock) v462 t461) := ⟨h1_⟩
          have n2_ : Aside0 (Kd.R Kd.string 9 w62 w.heap.size (fun k_ => some k_ ≠ (.slice (some ad455) t444.length co53 : Value).ownBlock ∧ some k_ ≠ (v462 : Value).ownBlock) (.slice (some ad443) t437.length co51) t437) := ⟨h2_⟩
          have n3_ : Aside0 (w62.heap[gb435]? = some (.cells #[.int .i64 0, .int .i64 0, .int .i64 0, .int .i64 0, .int .i64 0, .int .i64 0] 23 (0, 0))) := ⟨h3_⟩
          have n4_ : Aside0 (w62.heap[gb436]? = some (.cells #[.int .i64 0, .int .i64 0, .int .i64 0, .int .i64 0, .int .i64 0, .int .i64 0] 23 (0, 0))) := ⟨h4_⟩
          have n5_ : Aside0 (Below w.heap.size w w62) := ⟨h5_⟩
          clear HO_5
          clear HO446
          clear BK435
          clear BK436
          clear HB
          clear h0_ h1_ h2_ h3_ h4_ h5_
          have HO446 := n0_
          have HO463 := n1_
          have HO_5 := n2_
          have BK435 := n3_
          have BK436 := n4_
          have HB := n5_
          clear n0_ n1_ n2_ n3_ n4_ n5_
          have hHeld : w62.cell? ⟨ad443.block, ad443.off + 2, none⟩ = some (.string (rdOf ByteArray.empty t437 2)) ∧ w62.cell? ⟨ad443.block, ad443.off + 2, none⟩ = some (.string (rdOf ByteArray.empty t437 2)) ∧ w62.cell? ⟨ad443.block, ad443.off + 1, none⟩ = some (.string (rdOf ByteArray.empty t437 1)) := hS_
          obtain ⟨Ao63, co63, eo63⟩ := Kd.R_slice HO463.out
          (first | subst eo63 | (injection eo63 with f1_ f2_ f3_; have f4_ := f1_.symm; have f5_ := f3_.symm; clear f1_ f2_ f3_; subst f4_; subst f5_))
          refine norm_ (a' := ?_) ?_ ?_
          rotate_left
          ·
           simp only [putAll, Act.put, List.setIfInBounds_toArray, List.set_cons_zero, List.set_cons_succ]
           rfl
          refine two_ (i := 11) (j := 21) (Ni := some 108) (Nj := some 15) #[true, true, true, true, true, true, true, true, true, true, true, true, false, true, true, true, false, true, true, true, false, false, false] #[true, true, true, true, true, true, true, true, true, true, true, false, false, true, true, true, false, true, true, true, false, true, false] rfl rfl rfl rfl (two_of HT_.out (by kernel_rfl)) (by decide) (by decide) (fun K hK => ?_) (fun K hK => ?_)
          ·
           skip
           refine goes_ Tryd.func65 (by kernel_rfl) rfl #[.slice Ao63 t461.length co63, .string ((rdOf ByteArray.empty t437 2).extract 0 ((ji43) : Int).toNat)] (by rfl) rfl rfl (by (try simp only [List.map_toArray, List.map_cons, List.map_nil]); first | done | (simp only [hji43]; rfl) | rfl | (simp only [List.length_drop, List.length_take]; rfl)) ?_
           with_reducible refine (spec_l17Index.calls kj2 _ _ t461 ((rdOf ByteArray.empty t437 2).extract 0 ((ji43) : Int).toNat) t466 _ ?side1 ?side2 A46.out).mono ?_
           (case side1 => exact zqC (Kd.R_reads' HO463.out).2.2)
           (case side2 => exact (Kd.R_reads' HO463.out).2.1)
           rintro e w' ⟨rfl, ⟨nd, rfl⟩⟩
           refine ⟨_, rfl, ?_⟩
           refine hK.out _ _ ⟨hHeld.1, hHeld.2.1, hHeld.2.2⟩ (fun hHeld => ?_)
           clear hK K
           refine norm_ (a' := ?_) ?_ ?_
           rotate_left
           ·
            show Act.put _ (some 108) _ = _
            simp only [Act.put, List.setIfInBounds_toArray, List.set_cons_zero, List.set_cons_succ, i64_w, i32_w]
            rfl
           exact norm_ (by first | (simp only [putAll, Act.put, List.setIfInBounds_toArray, List.set_cons_zero, List.set_cons_succ]; done) | (simp only [putAll, Act.put, List.setIfInBounds_toArray, List.set_cons_zero, List.set_cons_succ]; rfl)) (hJ1_11 (.slice Ao63 t461.length co63) _ ⟨hHeld, (zqR HO446.out), (zqR HO463.out), (zqR HO_5.out), (zqK BK435.out), (zqK BK436.out), zq3⟩)
          ·
           skip
           refine box_step ?hg (N := 15) ?hd (cs := #[.int .i64 0, .int .i64 0, .int .i64 0, .int .i64 0, .int .i64 0, .int .i64 0]) (t := 23) ?hr ?_; (case hd => rfl); (case hg => rfl); (case hr => exact zqS)
           intro gb472 hg w63 hbox hb
           have HS0_ := (hb.cell (World.block_lt_of_cell? _ _ (hHeld.1))).trans (hHeld.1)
           have HS1_ := (hb.cell (World.block_lt_of_cell? _ _ (hHeld.2.1))).trans (hHeld.2.1)
           have HS2_ := (hb.cell (World.block_lt_of_cell? _ _ (hHeld.2.2))).trans (hHeld.2.2)
           have n0_ := Aside0.mk (Kd.R_below (zqR HO_5.out) hb)
           have n1_ := Aside0.mk (Kd.R_below (zqR HO446.out) hb)
           have n2_ := Aside0.mk (Kd.R_below (zqR HO463.out) hb)
           have n3_ := Aside0.mk (blk_below (g := gb435) (o := .cells #[.int .i64 0, .int .i64 0, .int .i64 0, .int .i64 0, .int .i64 0, .int .i64 0] 23 (0, 0)) (zqK BK435.out) hb)
           have n4_ := Aside0.mk (blk_below (g := gb436) (o := .cells #[.int .i64 0, .int .i64 0, .int .i64 0, .int .i64 0, .int .i64 0, .int .i64 0] 23 (0, 0)) (zqK BK436.out) hb)
           have n5_ := Aside0.mk (below_step zq3 hb)
           have n6_ := Aside0.mk (hbox)
           have n7_ := Aside0.mk ((by rw [hg]; exact (below_size zq3) : w.heap.size ≤ gb472))
           have n8_ := Aside0.mk ((by rw [hg]; exact (below_size zq3) : w.heap.size ≤ gb472))
           have n9_ := Aside0.mk ((by rw [hg]; exact Nat.ne_of_lt (blk_lt (g := gb435) (o := .cells #[.int .i64 0, .int .i64 0, .int .i64 0, .int .i64 0, .int .i64 0, .int .i64 0] 23 (0, 0)) (zqK BK435.out)) : gb435 ≠ gb472))
           have n10_ := Aside0.mk ((by rw [hg]; exact Nat.ne_of_gt (blk_lt (g := gb435) (o := .cells #[.int .i64 0, .int .i64 0, .int .i64 0, .int .i64 0, .int .i64 0, .int .i64 0] 23 (0, 0)) (zqK BK435.out)) : gb472 ≠ gb435))
           have n11_ := Aside0.mk ((by rw [hg]; exact Nat.ne_of_lt (blk_lt (g := gb436) (o := .cells #[.int .i64 0, .int .i64 0, .int .i64 0, .int .i64 0, .int .i64 0, .int .i64 0] 23 (0, 0)) (zqK BK436.out)) : gb436 ≠ gb472))
           have n12_ := Aside0.mk ((by rw [hg]; exact Nat.ne_of_gt (blk_lt (g := gb436) (o := .cells #[.int .i64 0, .int .i64 0, .int .i64 0, .int .i64 0, .int .i64 0, .int .i64 0] 23 (0, 0)) (zqK BK436.out)) : gb472 ≠ gb436))
           clear HO_5
           clear HO446
           clear HO463
           clear BK435
           clear BK436
           clear HB
           have HO_5 := n0_
           have HO446 := n1_
           have HO463 := n2_
           have BK435 := n3_
           have BK436 := n4_
           have HB := n5_
           have BK472 := n6_
           have GW472 := n7_
           have GE472 := n8_
           have NB435_472 := n9_
           have NB472_435 := n10_
           have NB436_472 := n11_
           have NB472_436 := n12_
           clear n0_ n1_ n2_ n3_ n4_ n5_ n6_ n7_ n8_ n9_ n10_ n11_ n12_
           clear hb hbox hg
           refine hK.out _ _ ⟨HS0_, HS1_, HS2_⟩ (fun hHeld => ?_)
           clear hK K
           refine norm_ (a' := ?_) ?_ ?_
           rotate_left
           ·
            show Act.put _ (some 15) _ = _
            simp only [Act.put, List.setIfInBounds_toArray, List.set_cons_zero, List.set_cons_succ, i64_w, i32_w]
            rfl
           exact norm_ (by first | (simp only [putAll, Act.put, List.setIfInBounds_toArray, List.set_cons_zero, List.set_cons_succ]; done) | (simp only [putAll, Act.put, List.setIfInBounds_toArray, List.set_cons_zero, List.set_cons_succ]; rfl)) (hJ1_21 (_, gb472) _ ⟨hHeld, (zqR HO446.out), (zqR HO463.out), (zqR HO_5.out), (zqK BK435.out), (zqK BK436.out), (zqK BK472.out), GW472.out, GE472.out, NB435_472.out, NB472_435.out, NB436_472.out, NB472_436.out, zq5⟩)
        ·
         skip
         rintro ⟨v462, gb472⟩ w63 ⟨hS_, h0_, h1_, h2_, h3_, h4_, h5_, h6_, h7_, h8_, h9_, h10_, h11_, h12_⟩
         have n0_ : Aside0 (Kd.R Kd.string 9 w63 w.heap.size (fun k_ => some k_ ≠ (v462 : Value).ownBlock ∧ some k_ ≠ (.slice (some ad443) t437.length co51 : Value).ownBlock) (.slice (some ad455) t444.length co53) t444) := ⟨h0_⟩
         have n1_ : Aside0 (Kd.R Kd.string 9 w63 w.heap.size (fun k_ => some k_ ≠ (.slice (some ad455) t444.length co53 : Value).ownBlock ∧ some k_ ≠ (.slice (some ad443) t437.length co51 : Value).ownBlock) v462 t461) := ⟨h1_⟩
         have n2_ : Aside0 (Kd.R Kd.string 9 w63 w.heap.size (fun k_ => some k_ ≠ (.slice (some ad455) t444.length co53 : Value).ownBlock ∧ some k_ ≠ (v462 : Value).ownBlock) (.slice (some ad443) t437.length co51) t437) := ⟨h2_⟩
         have n3_ : Aside0 (w63.heap[gb435]? = some (.cells #[.int .i64 0, .int .i64 0, .int .i64 0, .int .i64 0, .int .i64 0, .int .i64 0] 23 (0, 0))) := ⟨h3_⟩
         have n4_ : Aside0 (w63.heap[gb436]? = some (.cells #[.int .i64 0, .int .i64 0, .int .i64 0, .int .i64 0, .int .i64 0, .int .i64 0] 23 (0, 0))) := ⟨h4_⟩
         have n5_ : Aside0 (w63.heap[gb472]? = some (.cells #[.int .i64 0, .int .i64 0, .int .i64 0, .int .i64 0, .int .i64 0, .int .i64 0] 23 (0, 0))) := ⟨h5_⟩
         have n6_ : Aside0 (w.heap.size ≤ gb472) := ⟨h6_⟩
         have n7_ : Aside0 (w.heap.size ≤ gb472) := ⟨h7_⟩
         have n8_ : Aside0 (gb435 ≠ gb472) := ⟨h8_⟩
         have n9_ : Aside0 (gb472 ≠ gb435) := ⟨h9_⟩
         have n10_ : Aside0 (gb436 ≠ gb472) := ⟨h10_⟩
         have n11_ : Aside0 (gb472 ≠ gb436) := ⟨h11_⟩
         have n12_ : Aside0 (Below w.heap.size w w63) := ⟨h12_⟩
         clear HO_5
         clear HO446
         clear BK435
         clear BK436
         clear HB
         clear h0_ h1_ h2_ h3_ h4_ h5_ h6_ h7_ h8_ h9_ h10_ h11_ h12_
         have HO446 := n0_
         have HO463 := n1_
         have HO_5 := n2_
         have BK435 := n3_
         have BK436 := n4_
         have BK472 := n5_
         have GW472 := n6_
         have GE472 := n7_
         have NB435_472 := n8_
         have NB472_435 := n9_
         have NB436_472 := n10_
         have NB472_436 := n11_
         have HB := n12_
         clear n0_ n1_ n2_ n3_ n4_ n5_ n6_ n7_ n8_ n9_ n10_ n11_ n12_
         have hHeld : w63.cell? ⟨ad443.block, ad443.off + 2, none⟩ = some (.string (rdOf ByteArray.empty t437 2)) ∧ w63.cell? ⟨ad443.block, ad443.off + 2, none⟩ = some (.string (rdOf ByteArray.empty t437 2)) ∧ w63.cell? ⟨ad443.block, ad443.off + 1, none⟩ = some (.string (rdOf ByteArray.empty t437 1)) := hS_
         obtain ⟨Ao64, co64, eo64⟩ := Kd.R_slice HO463.out
         (first | subst eo64 | (injection eo64 with f1_ f2_ f3_; have f4_ := f1_.symm; have f5_ := f3_.symm; clear f1_ f2_ f3_; subst f4_; subst f5_))
         refine norm_ (a' := ?_) ?_ ?_
         rotate_left
         ·
          simp only [putAll, Act.put, List.setIfInBounds_toArray, List.set_cons_zero, List.set_cons_succ]
          rfl
         refine one_ (i := 11) (N := some 108) #[true, true, true, true, true, true, true, true, true, true, true, true, false, true, true, true, false, true, true, true, false, true, false] rfl rfl (one_of HT_.out (by kernel_rfl)) (by decide) (fun K hK => ?_)
         refine goes_ Tryd.func65 (by kernel_rfl) rfl #[.slice Ao64 t461.length co64, .string ((rdOf ByteArray.empty t437 2).extract 0 ((ji43) : Int).toNat)] (by rfl) rfl rfl (by (try simp only [List.map_toArray, List.map_cons, List.map_nil]); first | done | (simp only [hji43]; rfl) | rfl | (simp only [List.length_drop, List.length_take]; rfl)) ?_
         with_reducible refine (spec_l17Index.calls kj2 _ _ t461 ((rdOf ByteArray.empty t437 2).extract 0 ((ji43) : Int).toNat) t466 _ ?side1 ?side2 A46.out).mono ?_
         (case side1 => exact zqC (Kd.R_reads' HO463.out).2.2)
         (case side2 => exact (Kd.R_reads' HO463.out).2.1)
         rintro e w' ⟨rfl, ⟨nd, rfl⟩⟩
         refine ⟨_, rfl, ?_⟩
         refine hK.out _ _ ⟨hHeld.1, hHeld.2.1, hHeld.2.2⟩ (fun hHeld => ?_)
         clear hK K
         refine norm_ (a' := ?_) ?_ ?_
         rotate_left
         ·
          show Act.put _ (some 108) _ = _
          simp only [Act.put, List.setIfInBounds_toArray, List.set_cons_zero, List.set_cons_succ, i64_w, i32_w]
          rfl
         exact norm_ (by first | (simp only [putAll, Act.put, List.setIfInBounds_toArray, List.set_cons_zero, List.set_cons_succ]; done) | (simp only [putAll, Act.put, List.setIfInBounds_toArray, List.set_cons_zero, List.set_cons_succ]; rfl)) (hJ1_11_21 (.slice Ao64 t461.length co64, gb472) _ ⟨hHeld, (zqR HO446.out), (zqR HO463.out), (zqR HO_5.out), (zqK BK435.out), (zqK BK436.out), (zqK BK472.out), GW472.out, GE472.out, NB435_472.out, NB472_435.out, NB436_472.out, NB472_436.out, zq5⟩)
       ·
        skip
        rintro v462 w63 ⟨hS_, h0_, h1_, h2_, h3_, h4_, h5_⟩
        have n0_ : Aside0 (Kd.R Kd.string 9 w63 w.heap.size (fun k_ => some k_ ≠ (v462 : Value).ownBlock ∧ some k_ ≠ (.slice (some ad443) t437.length co51 : Value).ownBlock) (.slice (some ad455) t444.length co53) t444) := ⟨h0_⟩
        have n1_ : Aside0 (Kd.R Kd.string 9 w63 w.heap.size (fun k_ => some k_ ≠ (.slice (some ad455) t444.length co53 : Value).ownBlock ∧ some k_ ≠ (.slice (some ad443) t437.length co51 : Value).ownBlock) v462 t461) := ⟨h1_⟩
        have n2_ : Aside0 (Kd.R Kd.string 9 w63 w.heap.size (fun k_ => some k_ ≠ (.slice (some ad455) t444.length co53 : Value).ownBlock ∧ some k_ ≠ (v462 : Value).ownBlock) (.slice (some ad443) t437.length co51) t437) := ⟨h2_⟩
        have n3_ : Aside0 (w63.heap[gb435]? = some (.cells #[.int .i64 0, .int .i64 0, .int .i64 0, .int .i64 0, .int .i64 0, .int .i64 0] 23 (0, 0))) := ⟨h3_⟩
        have n4_ : Aside0 (w63.heap[gb436]? = some (.cells #[.int .i64 0, .int .i64 0, .int .i64 0, .int .i64 0, .int .i64 0, .int .i64 0] 23 (0, 0))) := ⟨h4_⟩
        have n5_ : Aside0 (Below w.heap.size w w63) := ⟨h5_⟩
        clear HO_5
        clear HO446
        clear BK435
        clear BK436
        clear HB
        clear h0_ h1_ h2_ h3_ h4_ h5_
        have HO446 := n0_
        have HO463 := n1_
        have HO_5 := n2_
        have BK435 := n3_
        have BK436 := n4_
        have HB := n5_
        clear n0_ n1_ n2_ n3_ n4_ n5_
        have hHeld : w63.cell? ⟨ad443.block, ad443.off + 2, none⟩ = some (.string (rdOf ByteArray.empty t437 2)) ∧ w63.cell? ⟨ad443.block, ad443.off + 2, none⟩ = some (.string (rdOf ByteArray.empty t437 2)) ∧ w63.cell? ⟨ad443.block, ad443.off + 1, none⟩ = some (.string (rdOf ByteArray.empty t437 1)) := hS_
        refine norm_ (a' := ?_) ?_ ?_
        rotate_left
        ·
         simp only [putAll, Act.put, List.setIfInBounds_toArray, List.set_cons_zero, List.set_cons_succ]
         rfl
        refine two_ (i := 12) (j := 21) (Ni := some 109) (Nj := some 15) #[true, true, true, true, true, true, true, true, true, true, true, true, true, true, true, true, false, true, true, true, false, false, false] #[true, true, true, true, true, true, true, true, true, true, true, true, false, true, true, true, false, true, true, true, false, true, false] rfl rfl rfl rfl (two_of HT_.out (by kernel_rfl)) (by decide) (by decide) (fun K hK => ?_) (fun K hK => ?_)
        ·
         skip
         refine goes_ Tryd.func67 (by kernel_rfl) rfl #[] (by rfl) rfl rfl zq2 ?_
         with_reducible refine (spec_l17Levels.calls  t467 _ A47.out).mono ?_
         rintro e w64 ⟨v468, rfl, ho0, hb⟩
         have HS0_ := (hb.cell (World.block_lt_of_cell? _ _ (hHeld.1))).trans (hHeld.1)
         have HS1_ := (hb.cell (World.block_lt_of_cell? _ _ (hHeld.2.1))).trans (hHeld.2.1)
         have HS2_ := (hb.cell (World.block_lt_of_cell? _ _ (hHeld.2.2))).trans (hHeld.2.2)
         refine ⟨_, rfl, ?_⟩
         have n0_ := Aside0.mk (Kd.R_elder' (zqR HO_5.out) (Kd.R_base ho0) hb)
         have n1_ := Aside0.mk (Kd.R_elder' (zqR HO446.out) (Kd.R_base ho0) hb)
         have n2_ := Aside0.mk (Kd.R_elder' (zqR HO463.out) (Kd.R_base ho0) hb)
         have n3_ := Aside0.mk (Kd.R_lower (Kd.R_new' (Kd.R_new' (Kd.R_new' ho0 (Kd.R_lt (zqR HO_5.out))) (Kd.R_lt (zqR HO446.out))) (Kd.R_lt (zqR HO463.out))) (below_size zq3))
         have n4_ := Aside0.mk (blk_below (g := gb435) (o := .cells #[.int .i64 0, .int .i64 0, .int .i64 0, .int .i64 0, .int .i64 0, .int .i64 0] 23 (0, 0)) (zqK BK435.out) hb)
         have n5_ := Aside0.mk (blk_below (g := gb436) (o := .cells #[.int .i64 0, .int .i64 0, .int .i64 0, .int .i64 0, .int .i64 0, .int .i64 0] 23 (0, 0)) (zqK BK436.out) hb)
         have n6_ := Aside0.mk (below_step zq3 hb)
         clear HO_5
         clear HO446
         clear HO463
         clear BK435
         clear BK436
         clear HB
         have HO_5 := n0_
         have HO446 := n1_
         have HO463 := n2_
         have HO469 := n3_
         have BK435 := n4_
         have BK436 := n5_
         have HB := n6_
         clear n0_ n1_ n2_ n3_ n4_ n5_ n6_
         (try clear hb)
         (try clear hb2)
         (try clear hk)
         (try clear hi)
         (try clear ho0)
         refine hK.out _ _ ⟨HS0_, HS1_, HS2_⟩ (fun hHeld => ?_)
         clear hK K
         refine norm_ (a' := ?_) ?_ ?_
         rotate_left
         ·
          show Act.put _ (some 109) _ = _
          simp only [Act.put, List.setIfInBounds_toArray, List.set_cons_zero, List.set_cons_succ, i64_w, i32_w]
          rfl
         exact norm_ (by first | (simp only [putAll, Act.put, List.setIfInBounds_toArray, List.set_cons_zero, List.set_cons_succ]; done) | (simp only [putAll, Act.put, List.setIfInBounds_toArray, List.set_cons_zero, List.set_cons_succ]; rfl)) (hJ1_11_12 (_, _) _ ⟨hHeld, (by (with_reducible repeat (first | apply Kd.R_alloc | apply Kd.R_drewN | apply Kd.R_drew)); exact Kd.R_mono HO446.out (fun _ hk => ⟨hk.1.1, ⟨hk.2, hk.1.2⟩⟩)), (by (with_reducible repeat (first | apply Kd.R_alloc | apply Kd.R_drewN | apply Kd.R_drew)); exact Kd.R_mono HO463.out (fun _ hk => ⟨hk.1.1, ⟨hk.2, hk.1.2⟩⟩)), (by (with_reducible repeat (first | apply Kd.R_alloc | apply Kd.R_drewN | apply Kd.R_drew)); exact Kd.R_mono HO469.out (fun _ hk => ⟨hk.1.2, ⟨hk.2, hk.1.1.2⟩⟩)), (by (with_reducible repeat (first | apply Kd.R_alloc | apply Kd.R_drewN | apply Kd.R_drew)); exact Kd.R_mono HO_5.out (fun _ hk => ⟨hk.1.1, ⟨hk.1.2, hk.2⟩⟩)), (zqK BK435.out), (zqK BK436.out), zq3⟩)
        ·
         skip
         refine box_step ?hg (N := 15) ?hd (cs := #[.int .i64 0, .int .i64 0, .int .i64 0, .int .i64 0, .int .i64 0, .int .i64 0]) (t := 23) ?hr ?_; (case hd => rfl); (case hg => rfl); (case hr => exact zqS)
         intro gb472 hg w64 hbox hb
         have HS0_ := (hb.cell (World.block_lt_of_cell? _ _ (hHeld.1))).trans (hHeld.1)
         have HS1_ := (hb.cell (World.block_lt_of_cell? _ _ (hHeld.2.1))).trans (hHeld.2.1)
         have HS2_ := (hb.cell (World.block_lt_of_cell? _ _ (hHeld.2.2))).trans (hHeld.2.2)
         have n0_ := Aside0.mk (Kd.R_below (zqR HO_5.out) hb)
         have n1_ := Aside0.mk (Kd.R_below (zqR HO446.out) hb)
         have n2_ := Aside0.mk (Kd.R_below (zqR HO463.out) hb)
         have n3_ := Aside0.mk (blk_below (g := gb435) (o := .cells #[.int .i64 0, .int .i64 0, .int .i64 0, .int .i64 0, .int .i64 0, .int .i64 0] 23 (0, 0)) (zqK BK435.out) hb)
         have n4_ := Aside0.mk (blk_below (g := gb436) (o := .cells #[.int .i64 0, .int .i64 0, .int .i64 0, .int .i64 0, .int .i64 0, .int .i64 0] 23 (0, 0)) (zqK BK436.out) hb)
         have n5_ := Aside0.mk (below_step zq3 hb)
         have n6_ := Aside0.mk (hbox)
         have n7_ := Aside0.mk ((by rw [hg]; exact (below_size zq3) : w.heap.size ≤ gb472))
         have n8_ := Aside0.mk ((by rw [hg]; exact (below_size zq3) : w.heap.size ≤ gb472))
         have n9_ := Aside0.mk ((by rw [hg]; exact Nat.ne_of_lt (blk_lt (g := gb435) (o := .cells #[.int .i64 0, .int .i64 0, .int .i64 0, .int .i64 0, .int .i64 0, .int .i64 0] 23 (0, 0)) (zqK BK435.out)) : gb435 ≠ gb472))
         have n10_ := Aside0.mk ((by rw [hg]; exact Nat.ne_of_gt (blk_lt (g := gb435) (o := .cells #[.int .i64 0, .int .i64 0, .int .i64 0, .int .i64 0, .int .i64 0, .int .i64 0] 23 (0, 0)) (zqK BK435.out)) : gb472 ≠ gb435))
         have n11_ := Aside0.mk ((by rw [hg]; exact Nat.ne_of_lt (blk_lt (g := gb436) (o := .cells #[.int .i64 0, .int .i64 0, .int .i64 0, .int .i64 0, .int .i64 0, .int .i64 0] 23 (0, 0)) (zqK BK436.out)) : gb436 ≠ gb472))
         have n12_ := Aside0.mk ((by rw [hg]; exact Nat.ne_of_gt (blk_lt (g := gb436) (o := .cells #[.int .i64 0, .int .i64 0, .int .i64 0, .int .i64 0, .int .i64 0, .int .i64 0] 23 (0, 0)) (zqK BK436.out)) : gb472 ≠ gb436))
         clear HO_5
         clear HO446
         clear HO463
         clear BK435
         clear BK436
         clear HB
         have HO_5 := n0_
         have HO446 := n1_
         have HO463 := n2_
         have BK435 := n3_
         have BK436 := n4_
         have HB := n5_
         have BK472 := n6_
         have GW472 := n7_
         have GE472 := n8_
         have NB435_472 := n9_
         have NB472_435 := n10_
         have NB436_472 := n11_
         have NB472_436 := n12_
         clear n0_ n1_ n2_ n3_ n4_ n5_ n6_ n7_ n8_ n9_ n10_ n11_ n12_
         clear hb hbox hg
         refine hK.out _ _ ⟨HS0_, HS1_, HS2_⟩ (fun hHeld => ?_)
         clear hK K
         refine norm_ (a' := ?_) ?_ ?_
         rotate_left
         ·
          show Act.put _ (some 15) _ = _
          simp only [Act.put, List.setIfInBounds_toArray, List.set_cons_zero, List.set_cons_succ, i64_w, i32_w]
          rfl
         exact norm_ (by first | (simp only [putAll, Act.put, List.setIfInBounds_toArray, List.set_cons_zero, List.set_cons_succ]; done) | (simp only [putAll, Act.put, List.setIfInBounds_toArray, List.set_cons_zero, List.set_cons_succ]; rfl)) (hJ1_11_21 (_, gb472) _ ⟨hHeld, (zqR HO446.out), (zqR HO463.out), (zqR HO_5.out), (zqK BK435.out), (zqK BK436.out), (zqK BK472.out), GW472.out, GE472.out, NB435_472.out, NB472_435.out, NB436_472.out, NB472_436.out, zq5⟩)
      ·
       skip
       rintro ⟨v462, gb472⟩ w64 ⟨hS_, h0_, h1_, h2_, h3_, h4_, h5_, h6_, h7_, h8_, h9_, h10_, h11_, h12_⟩
       have n0_ : Aside0 (Kd.R Kd.string 9 w64 w.heap.size (fun k_ => some k_ ≠ (v462 : Value).ownBlock ∧ some k_ ≠ (.slice (some ad443) t437.length co51 : Value).ownBlock) (.slice (some ad455) t444.length co53) t444) := ⟨h0_⟩
       have n1_ : Aside0 (Kd.R Kd.string 9 w64 w.heap.size (fun k_ => some k_ ≠ (.slice (some ad455) t444.length co53 : Value).ownBlock ∧ some k_ ≠ (.slice (some ad443) t437.length co51 : Value).ownBlock) v462 t461) := ⟨h1_⟩
       have n2_ : Aside0 (Kd.R Kd.string 9 w64 w.heap.size (fun k_ => some k_ ≠ (.slice (some ad455) t444.length co53 : Value).ownBlock ∧ some k_ ≠ (v462 : Value).ownBlock) (.slice (some ad443) t437.length co51) t437) := ⟨h2_⟩
       have n3_ : Aside0 (w64.heap[gb435]? = some (.cells #[.int .i64 0, .int .i64 0, .int .i64 0, .int .i64 0, .int .i64 0, .int .i64 0] 23 (0, 0))) := ⟨h3_⟩
       have n4_ : Aside0 (w64.heap[gb436]? = some (.cells #[.int .i64 0, .int .i64 0, .int .i64 0, .int .i64 0, .int .i64 0, .int .i64 0] 23 (0, 0))) := ⟨h4_⟩
       have n5_ : Aside0 (w64.heap[gb472]? = some (.cells #[.int .i64 0, .int .i64 0, .int .i64 0, .int .i64 0, .int .i64 0, .int .i64 0] 23 (0, 0))) := ⟨h5_⟩
       have n6_ : Aside0 (w.heap.size ≤ gb472) := ⟨h6_⟩
       have n7_ : Aside0 (w.heap.size ≤ gb472) := ⟨h7_⟩
       have n8_ : Aside0 (gb435 ≠ gb472) := ⟨h8_⟩
       have n9_ : Aside0 (gb472 ≠ gb435) := ⟨h9_⟩
       have n10_ : Aside0 (gb436 ≠ gb472) := ⟨h10_⟩
       have n11_ : Aside0 (gb472 ≠ gb436) := ⟨h11_⟩
       have n12_ : Aside0 (Below w.heap.size w w64) := ⟨h12_⟩
       clear HO_5
       clear HO446
       clear BK435
       clear BK436
       clear HB
       clear h0_ h1_ h2_ h3_ h4_ h5_ h6_ h7_ h8_ h9_ h10_ h11_ h12_
       have HO446 := n0_
       have HO463 := n1_
       have HO_5 := n2_
       have BK435 := n3_
       have BK436 := n4_
       have BK472 := n5_
       have GW472 := n6_
       have GE472 := n7_
       have NB435_472 := n8_
       have NB472_435 := n9_
       have NB436_472 := n10_
       have NB472_436 := n11_
       have HB := n12_
       clear n0_ n1_ n2_ n3_ n4_ n5_ n6_ n7_ n8_ n9_ n10_ n11_ n12_
       have hHeld : w64.cell? ⟨ad443.block, ad443.off + 2, none⟩ = some (.string (rdOf ByteArray.empty t437 2)) ∧ w64.cell? ⟨ad443.block, ad443.off + 2, none⟩ = some (.string (rdOf ByteArray.empty t437 2)) ∧ w64.cell? ⟨ad443.block, ad443.off + 1, none⟩ = some (.string (rdOf ByteArray.empty t437 1)) := hS_
       refine norm_ (a' := ?_) ?_ ?_
       rotate_left
       ·
        simp only [putAll, Act.put, List.setIfInBounds_toArray, List.set_cons_zero, List.set_cons_succ]
        rfl
       refine one_ (i := 12) (N := some 109) #[true, true, true, true, true, true, true, true, true, true, true, true, true, true, true, true, false, true, true, true, false, true, false] rfl rfl (one_of HT_.out (by kernel_rfl)) (by decide) (fun K hK => ?_)
       refine goes_ Tryd.func67 (by kernel_rfl) rfl #[] (by rfl) rfl rfl zq2 ?_
       with_reducible refine (spec_l17Levels.calls  t467 _ A47.out).mono ?_
       rintro e w65 ⟨v468, rfl, ho0, hb⟩
       have HS0_ := (hb.cell (World.block_lt_of_cell? _ _ (hHeld.1))).trans (hHeld.1)
       have HS1_ := (hb.cell (World.block_lt_of_cell? _ _ (hHeld.2.1))).trans (hHeld.2.1)
       have HS2_ := (hb.cell (World.block_lt_of_cell? _ _ (hHeld.2.2))).trans (hHeld.2.2)
       refine ⟨_, rfl, ?_⟩
       have n0_ := Aside0.mk (Kd.R_elder' (zqR HO_5.out) (Kd.R_base ho0) hb)
       have n1_ := Aside0.mk (Kd.R_elder' (zqR HO446.out) (Kd.R_base ho0) hb)
       have n2_ := Aside0.mk (Kd.R_elder' (zqR HO463.out) (Kd.R_base ho0) hb)
       have n3_ := Aside0.mk (Kd.R_lower (Kd.R_new' (Kd.R_new' (Kd.R_new' ho0 (Kd.R_lt (zqR HO_5.out))) (Kd.R_lt (zqR HO446.out))) (Kd.R_lt (zqR HO463.out))) (below_size zq5))
       have n4_ := Aside0.mk (blk_below (g := gb435) (o := .cells #[.int .i64 0, .int .i64 0, .int .i64 0, .int .i64 0, .int .i64 0, .int .i64 0] 23 (0, 0)) (zqK BK435.out) hb)
       have n5_ := Aside0.mk (blk_below (g := gb436) (o := .cells #[.int .i64 0, .int .i64 0, .int .i64 0, .int .i64 0, .int .i64 0, .int .i64 0] 23 (0, 0)) (zqK BK436.out) hb)
       have n6_ := Aside0.mk (blk_below (g := gb472) (o := .cells #[.int .i64 0, .int .i64 0, .int .i64 0, .int .i64 0, .int .i64 0, .int .i64 0] 23 (0, 0)) (zqK BK472.out) hb)
       have n7_ := Aside0.mk (below_step zq5 hb)
       clear HO_5
       clear HO446
       clear HO463
       clear BK435
       clear BK436
       clear BK472
       clear HB
       have HO_5 := n0_
       have HO446 := n1_
       have HO463 := n2_
       have HO469 := n3_
       have BK435 := n4_
       have BK436 := n5_
       have BK472 := n6_
       have HB := n7_
       clear n0_ n1_ n2_ n3_ n4_ n5_ n6_ n7_
       (try clear hb)
       (try clear hb2)
       (try clear hk)
       (try clear hi)
       (try clear ho0)
       refine hK.out _ _ ⟨HS0_, HS1_, HS2_⟩ (fun hHeld => ?_)
       clear hK K
       refine norm_ (a' := ?_) ?_ ?_
       rotate_left
       ·
        show Act.put _ (some 109) _ = _
        simp only [Act.put, List.setIfInBounds_toArray, List.set_cons_zero, List.set_cons_succ, i64_w, i32_w]
        rfl
       exact norm_ (by first | (simp only [putAll, Act.put, List.setIfInBounds_toArray, List.set_cons_zero, List.set_cons_succ]; done) | (simp only [putAll, Act.put, List.setIfInBounds_toArray, List.set_cons_zero, List.set_cons_succ]; rfl)) (hJ1_11_12_21 (_, _, gb472) _ ⟨hHeld, (by (with_reducible repeat (first | apply Kd.R_alloc | apply Kd.R_drewN | apply Kd.R_drew)); exact Kd.R_mono HO446.out (fun _ hk => ⟨hk.1.1, ⟨hk.2, hk.1.2⟩⟩)), (by (with_reducible repeat (first | apply Kd.R_alloc | apply Kd.R_drewN | apply Kd.R_drew)); exact Kd.R_mono HO463.out (fun _ hk => ⟨hk.1.1, ⟨hk.2, hk.1.2⟩⟩)), (by (with_reducible repeat (first | apply Kd.R_alloc | apply Kd.R_drewN | apply Kd.R_drew)); exact Kd.R_mono HO469.out (fun _ hk => ⟨hk.1.2, ⟨hk.2, hk.1.1.2⟩⟩)), (by (with_reducible repeat (first | apply Kd.R_alloc | apply Kd.R_drewN | apply Kd.R_drew)); exact Kd.R_mono HO_5.out (fun _ hk => ⟨hk.1.1, ⟨hk.1.2, hk.2⟩⟩)), (zqK BK435.out), (zqK BK436.out), (zqK BK472.out), GW472.out, GE472.out, NB435_472.out, NB472_435.out, NB436_472.out, NB472_436.out, zq5⟩)
     ·
      skip
      rintro ⟨v462, v468⟩ w64 ⟨hS_, h0_, h1_, h2_, h3_, h4_, h5_, h6_⟩
      have n0_ : Aside0 (Kd.R Kd.string 9 w64 w.heap.size (fun k_ => some k_ ≠ (v462 : Value).ownBlock ∧ some k_ ≠ (v468 : Value).ownBlock ∧ some k_ ≠ (.slice (some ad443) t437.length co51 : Value).ownBlock) (.slice (some ad455) t444.length co53) t444) := ⟨h0_⟩
      have n1_ : Aside0 (Kd.R Kd.string 9 w64 w.heap.size (fun k_ => some k_ ≠ (.slice (some ad455) t444.length co53 : Value).ownBlock ∧ some k_ ≠ (v468 : Value).ownBlock ∧ some k_ ≠ (.slice (some ad443) t437.length co51 : Value).ownBlock) v462 t461) := ⟨h1_⟩
      have n2_ : Aside0 (Kd.R Kd.string 9 w64 w.heap.size (fun k_ => some k_ ≠ (.slice (some ad455) t444.length co53 : Value).ownBlock ∧ some k_ ≠ (v462 : Value).ownBlock ∧ some k_ ≠ (.slice (some ad443) t437.length co51 : Value).ownBlock) v468 t467) := ⟨h2_⟩
      have n3_ : Aside0 (Kd.R Kd.string 9 w64 w.heap.size (fun k_ => some k_ ≠ (.slice (some ad455) t444.length co53 : Value).ownBlock ∧ some k_ ≠ (v462 : Value).ownBlock ∧ some k_ ≠ (v468 : Value).ownBlock) (.slice (some ad443) t437.length co51) t437) := ⟨h3_⟩
      have n4_ : Aside0 (w64.heap[gb435]? = some (.cells #[.int .i64 0, .int .i64 0, .int .i64 0, .int .i64 0, .int .i64 0, .int .i64 0] 23 (0, 0))) := ⟨h4_⟩
      have n5_ : Aside0 (w64.heap[gb436]? = some (.cells #[.int .i64 0, .int .i64 0, .int .i64 0, .int .i64 0, .int .i64 0, .int .i64 0] 23 (0, 0))) := ⟨h5_⟩
      have n6_ : Aside0 (Below w.heap.size w w64) := ⟨h6_⟩
      clear HO_5
      clear HO446
      clear BK435
      clear BK436
      clear HB
      clear h0_ h1_ h2_ h3_ h4_ h5_ h6_
      have HO446 := n0_
      have HO463 := n1_
      have HO469 := n2_
      have HO_5 := n3_
      have BK435 := n4_
      have BK436 := n5_
      have HB := n6_
      clear n0_ n1_ n2_ n3_ n4_ n5_ n6_
      have hHeld : w64.cell? ⟨ad443.block, ad443.off + 2, none⟩ = some (.string (rdOf ByteArray.empty t437 2)) ∧ w64.cell? ⟨ad443.block, ad443.off + 2, none⟩ = some (.string (rdOf ByteArray.empty t437 2)) ∧ w64.cell? ⟨ad443.block, ad443.off + 1, none⟩ = some (.string (rdOf ByteArray.empty t437 1)) := hS_
      obtain ⟨Ao65, co65, eo65⟩ := Kd.R_slice HO469.out
      (first | subst eo65 | (injection eo65 with f1_ f2_ f3_; have f4_ := f1_.symm; have f5_ := f3_.symm; clear f1_ f2_ f3_; subst f4_; subst f5_))
      refine norm_ (a' := ?_) ?_ ?_
      rotate_left
      ·
       simp only [putAll, Act.put, List.setIfInBounds_toArray, List.set_cons_zero, List.set_cons_succ]
       rfl
      refine two_ (i := 16) (j := 21) (Ni := some 113) (Nj := some 15) #[true, true, true, true, true, true, true, true, true, true, true, true, true, true, true, true, true, true, true, true, false, false, false] #[true, true, true, true, true, true, true, true, true, true, true, true, true, true, true, true, false, true, true, true, false, true, false] rfl rfl rfl rfl (two_of HT_.out (by kernel_rfl)) (by decide) (by decide) (fun K hK => ?_) (fun K hK => ?_)
      ·
       skip
       refine goes_ Tryd.func65 (by kernel_rfl) rfl #[.slice Ao65 t467.length co65, .string (rdOf ByteArray.empty t437 1)] (by rfl) rfl rfl zq2 ?_
       with_reducible refine (spec_l17Index.calls kj2 _ _ t467 (rdOf ByteArray.empty t437 1) t471 _ ?side1 ?side2 A49.out).mono ?_
       (case side1 => exact zqC (Kd.R_reads' HO469.out).2.2)
       (case side2 => exact (Kd.R_reads' HO469.out).2.1)
       rintro e w' ⟨rfl, ⟨nd, rfl⟩⟩
       refine ⟨_, rfl, ?_⟩
       refine hK.out _ _ ⟨hHeld.1, hHeld.2.1, hHeld.2.2⟩ (fun hHeld => ?_)
       clear hK K
       refine norm_ (a' := ?_) ?_ ?_
       rotate_left
       ·
        show Act.put _ (some 113) _ = _
        simp only [Act.put, List.setIfInBounds_toArray, List.set_cons_zero, List.set_cons_succ, i64_w, i32_w]
        rfl
       refine pure_ (i := 20) (N := some 117) (v := ?_) (a' := ?_) #[true, true, true, true, true, true, true, true, true, true, true, true, true, true, true, true, true, true, true, true, true, false, false] rfl rfl (any_of HT_.out (by kernel_rfl)) (fun _ _ _ h => h) (Or.inl ⟨by rfl, ?_⟩) ?_ ?_
       rotate_left; · exact zqB
       rotate_left; · exact zqA
       exact norm_ (by first | (simp only [putAll, Act.put, List.setIfInBounds_toArray, List.set_cons_zero, List.set_cons_succ]; done) | (simp only [putAll, Act.put, List.setIfInBounds_toArray, List.set_cons_zero, List.set_cons_succ]; rfl)) (hJ1_11_12_16 (v462, .slice Ao65 t467.length co65) _ ⟨hHeld, (zqR HO446.out), (zqR HO463.out), (zqR HO469.out), (zqR HO_5.out), (zqK BK435.out), (zqK BK436.out), zq3⟩)
      ·
       skip
       refine box_step ?hg (N := 15) ?hd (cs := #[.int .i64 0, .int .i64 0, .int .i64 0, .int .i64 0, .int .i64 0, .int .i64 0]) (t := 23) ?hr ?_; (case hd => rfl); (case hg => rfl); (case hr => exact zqS)
       intro gb472 hg w65 hbox hb
       have HS0_ := (hb.cell (World.block_lt_of_cell? _ _ (hHeld.1))).trans (hHeld.1)
       have HS1_ := (hb.cell (World.block_lt_of_cell? _ _ (hHeld.2.1))).trans (hHeld.2.1)
       have HS2_ := (hb.cell (World.block_lt_of_cell? _ _ (hHeld.2.2))).trans (hHeld.2.2)
       have n0_ := Aside0.mk (Kd.R_below (zqR HO_5.out) hb)
       have n1_ := Aside0.mk (Kd.R_below (zqR HO446.out) hb)
       have n2_ := Aside0.mk (Kd.R_below (zqR HO463.out) hb)
       have n3_ := Aside0.mk (Kd.R_below (zqR HO469.out) hb)
       have n4_ := Aside0.mk (blk_below (g := gb435) (o := .cells #[.int .i64 0, .int .i64 0, .int .i64 0, .int .i64 0, .int .i64 0, .int .i64 0] 23 (0, 0)) (zqK BK435.out) hb)
       have n5_ := Aside0.mk (blk_below (g := gb436) (o := .cells #[.int .i64 0, .int .i64 0, .int .i64 0, .int .i64 0, .int .i64 0, .int .i64 0] 23 (0, 0)) (zqK BK436.out) hb)
       have n6_ := Aside0.mk (below_step zq3 hb)
       have n7_ := Aside0.mk (hbox)
       have n8_ := Aside0.mk ((by rw [hg]; exact (below_size zq3) : w.heap.size ≤ gb472))
       have n9_ := Aside0.mk ((by rw [hg]; exact (below_size zq3) : w.heap.size ≤ gb472))
       have n10_ := Aside0.mk ((by rw [hg]; exact Nat.ne_of_lt (blk_lt (g := gb435) (o := .cells #[.int .i64 0, .int .i64 0, .int .i64 0, .int .i64 0, .int .i64 0, .int .i64 0] 23 (0, 0)) (zqK BK435.out)) : gb435 ≠ gb472))
       have n11_ := Aside0.mk ((by rw [hg]; exact Nat.ne_of_gt (blk_lt (g := gb435) (o := .cells #[.int .i64 0, .int .i64 0, .int .i64 0, .int .i64 0, .int .i64 0, .int .i64 0] 23 (0, 0)) (zqK BK435.out)) : gb472 ≠ gb435))
       have n12_ := Aside0.mk ((by rw [hg]; exact Nat.ne_of_lt (blk_lt (g := gb436) (o := .cells #[.int .i64 0, .int .i64 0, .int .i64 0, .int .i64 0, .int .i64 0, .int .i64 0] 23 (0, 0)) (zqK BK436.out)) : gb436 ≠ gb472))
       have n13_ := Aside0.mk ((by rw [hg]; exact Nat.ne_of_gt (blk_lt (g := gb436) (o := .cells #[.int .i64 0, .int .i64 0, .int .i64 0, .int .i64 0, .int .i64 0, .int .i64 0] 23 (0, 0)) (zqK BK436.out)) : gb472 ≠ gb436))
       clear HO_5
       clear HO446
       clear HO463
       clear HO469
       clear BK435
       clear BK436
       clear HB
       have HO_5 := n0_
       have HO446 := n1_
       have HO463 := n2_
       have HO469 := n3_
       have BK435 := n4_
       have BK436 := n5_
       have HB := n6_
       have BK472 := n7_
       have GW472 := n8_
       have GE472 := n9_
       have NB435_472 := n10_
       have NB472_435 := n11_
       have NB436_472 := n12_
       have NB472_436 := n13_
       clear n0_ n1_ n2_ n3_ n4_ n5_ n6_ n7_ n8_ n9_ n10_ n11_ n12_ n13_
       clear hb hbox hg
       refine hK.out _ _ ⟨HS0_, HS1_, HS2_⟩ (fun hHeld => ?_)
       clear hK K
       refine norm_ (a' := ?_) ?_ ?_
       rotate_left
       ·
        show Act.put _ (some 15) _ = _
        simp only [Act.put, List.setIfInBounds_toArray, List.set_cons_zero, List.set_cons_succ, i64_w, i32_w]
        rfl
       exact norm_ (by first | (simp only [putAll, Act.put, List.setIfInBounds_toArray, List.set_cons_zero, List.set_cons_succ]; done) | (simp only [putAll, Act.put, List.setIfInBounds_toArray, List.set_cons_zero, List.set_cons_succ]; rfl)) (hJ1_11_12_21 (_, _, gb472) _ ⟨hHeld, (zqR HO446.out), (zqR HO463.out), (zqR HO469.out), (zqR HO_5.out), (zqK BK435.out), (zqK BK436.out), (zqK BK472.out), GW472.out, GE472.out, NB435_472.out, NB472_435.out, NB436_472.out, NB472_436.out, zq5⟩)
    ·
     skip
     rintro ⟨v462, v468, gb472⟩ w65 ⟨hS_, h0_, h1_, h2_, h3_, h4_, h5_, h6_, h7_, h8_, h9_, h10_, h11_, h12_, h13_⟩
     have n0_ : Aside0 (Kd.R Kd.string 9 w65 w.heap.size (fun k_ => some k_ ≠ (v462 : Value).ownBlock ∧ some k_ ≠ (v468 : Value).ownBlock ∧ some k_ ≠ (.slice (some ad443) t437.length co51 : Value).ownBlock) (.slice (some ad455) t444.length co53) t444) := ⟨h0_⟩
     have n1_ : Aside0 (Kd.R Kd.string 9 w65 w.heap.size (fun k_ => some k_ ≠ (.slice (some ad455) t444.length co53 : Value).ownBlock ∧ some k_ ≠ (v468 : Value).ownBlock ∧ some k_ ≠ (.slice (some ad443) t437.length co51 : Value).ownBlock) v462 t461) := ⟨h1_⟩
     have n2_ : Aside0 (Kd.R Kd.string 9 w65 w.heap.size (fun k_ => some k_ ≠ (.slice (some ad455) t444.length co53 : Value).ownBlock ∧ some k_ ≠ (v462 : Value).ownBlock ∧ some k_ ≠ (.slice (some ad443) t437.length co51 : Value).ownBlock) v468 t467) := ⟨h2_⟩
     have n3_ : Aside0 (Kd.R Kd.string 9 w65 w.heap.size (fun k_ => some k_ ≠ (.slice (some ad455) t444.length co53 : Value).ownBlock ∧ some k_ ≠ (v462 : Value).ownBlock ∧ some k_ ≠ (v468 : Value).ownBlock) (.slice (some ad443) t437.length co51) t437) := ⟨h3_⟩
     have n4_ : Aside0 (w65.heap[gb435]? = some (.cells #[.int .i64 0, .int .i64 0, .int .i64 0, .int .i64 0, .int .i64 0, .int .i64 0] 23 (0, 0))) := ⟨h4_⟩
     have n5_ : Aside0 (w65.heap[gb436]? = some (.cells #[.int .i64 0, .int .i64 0, .int .i64 0, .int .i64 0, .int .i64 0, .int .i64 0] 23 (0, 0))) := ⟨h5_⟩
     have n6_ : Aside0 (w65.heap[gb472]? = some (.cells #[.int .i64 0, .int .i64 0, .int .i64 0, .int .i64 0, .int .i64 0, .int .i64 0] 23 (0, 0))) := ⟨h6_⟩
     have n7_ : Aside0 (w.heap.size ≤ gb472) := ⟨h7_⟩
     have n8_ : Aside0 (w.heap.size ≤ gb472) := ⟨h8_⟩
     have n9_ : Aside0 (gb435 ≠ gb472) := ⟨h9_⟩
     have n10_ : Aside0 (gb472 ≠ gb435) := ⟨h10_⟩
     have n11_ : Aside0 (gb436 ≠ gb472) := ⟨h11_⟩
     have n12_ : Aside0 (gb472 ≠ gb436) := ⟨h12_⟩
     have n13_ : Aside0 (Below w.heap.size w w65) := ⟨h13_⟩
     clear HO_5
     clear HO446
     clear BK435
     clear BK436
     clear HB
     clear h0_ h1_ h2_ h3_ h4_ h5_ h6_ h7_ h8_ h9_ h10_ h11_ h12_ h13_
     have HO446 := n0_
     have HO463 := n1_
     have HO469 := n2_
     have HO_5 := n3_
     have BK435 := n4_
     have BK436 := n5_
     have BK472 := n6_
     have GW472 := n7_
     have GE472 := n8_
     have NB435_472 := n9_
     have NB472_435 := n10_
     have NB436_472 := n11_
     have NB472_436 := n12_
     have HB := n13_
     clear n0_ n1_ n2_ n3_ n4_ n5_ n6_ n7_ n8_ n9_ n10_ n11_ n12_ n13_
     have hHeld : w65.cell? ⟨ad443.block, ad443.off + 2, none⟩ = some (.string (rdOf ByteArray.empty t437 2)) ∧ w65.cell? ⟨ad443.block, ad443.off + 2, none⟩ = some (.string (rdOf ByteArray.empty t437 2)) ∧ w65.cell? ⟨ad443.block, ad443.off + 1, none⟩ = some (.string (rdOf ByteArray.empty t437 1)) := hS_
     obtain ⟨Ao66, co66, eo66⟩ := Kd.R_slice HO469.out
     (first | subst eo66 | (injection eo66 with f1_ f2_ f3_; have f4_ := f1_.symm; have f5_ := f3_.symm; clear f1_ f2_ f3_; subst f4_; subst f5_))
     refine norm_ (a' := ?_) ?_ ?_
     rotate_left
     ·
      simp only [putAll, Act.put, List.setIfInBounds_toArray, List.set_cons_zero, List.set_cons_succ]
      rfl
     refine one_ (i := 16) (N := some 113) #[true, true, true, true, true, true, true, true, true, true, true, true, true, true, true, true, true, true, true, true, false, true, false] rfl rfl (one_of HT_.out (by kernel_rfl)) (by decide) (fun K hK => ?_)
     refine goes_ Tryd.func65 (by kernel_rfl) rfl #[.slice Ao66 t467.length co66, .string (rdOf ByteArray.empty t437 1)] (by rfl) rfl rfl zq2 ?_
     with_reducible refine (spec_l17Index.calls kj2 _ _ t467 (rdOf ByteArray.empty t437 1) t471 _ ?side1 ?side2 A49.out).mono ?_
     (case side1 => exact zqC (Kd.R_reads' HO469.out).2.2)
     (case side2 => exact (Kd.R_reads' HO469.out).2.1)
     rintro e w' ⟨rfl, ⟨nd, rfl⟩⟩
     refine ⟨_, rfl, ?_⟩
     refine hK.out _ _ ⟨hHeld.1, hHeld.2.1, hHeld.2.2⟩ (fun hHeld => ?_)
     clear hK K
     refine norm_ (a' := ?_) ?_ ?_
     rotate_left
     ·
      show Act.put _ (some 113) _ = _
      simp only [Act.put, List.setIfInBounds_toArray, List.set_cons_zero, List.set_cons_succ, i64_w, i32_w]
      rfl
     refine pure_ (i := 20) (N := some 117) (v := ?_) (a' := ?_) #[true, true, true, true, true, true, true, true, true, true, true, true, true, true, true, true, true, true, true, true, true, true, false] rfl rfl (any_of HT_.out (by kernel_rfl)) (fun _ _ _ h => h) (Or.inl ⟨by rfl, ?_⟩) ?_ ?_
     rotate_left; · exact zqB
     rotate_left; · exact zqA
     exact norm_ (by first | (simp only [putAll, Act.put, List.setIfInBounds_toArray, List.set_cons_zero, List.set_cons_succ]; done) | (simp only [putAll, Act.put, List.setIfInBounds_toArray, List.set_cons_zero, List.set_cons_succ]; rfl)) (hJ1_11_12_16_21 (v462, .slice Ao66 t467.length co66, gb472) _ ⟨hHeld, (zqR HO446.out), (zqR HO463.out), (zqR HO469.out), (zqR HO_5.out), (zqK BK435.out), (zqK BK436.out), (zqK BK472.out), GW472.out, GE472.out, NB435_472.out, NB472_435.out, NB436_472.out, NB472_436.out, zq5⟩)
   ·
    skip
    rintro ⟨v462, v468⟩ w65 ⟨hS_, h0_, h1_, h2_, h3_, h4_, h5_, h6_⟩
    have n0_ : Aside0 (Kd.R Kd.string 9 w65 w.heap.size (fun k_ => some k_ ≠ (v462 : Value).ownBlock ∧ some k_ ≠ (v468 : Value).ownBlock ∧ some k_ ≠ (.slice (some ad443) t437.length co51 : Value).ownBlock) (.slice (some ad455) t444.length co53) t444) := ⟨h0_⟩
    have n1_ : Aside0 (Kd.R Kd.string 9 w65 w.heap.size (fun k_ => some k_ ≠ (.slice (some ad455) t444.length co53 : Value).ownBlock ∧ some k_ ≠ (v468 : Value).ownBlock ∧ some k_ ≠ (.slice (some ad443) t437.length co51 : Value).ownBlock) v462 t461) := ⟨h1_⟩
    have n2_ : Aside0 (Kd.R Kd.string 9 w65 w.heap.size (fun k_ => some k_ ≠ (.slice (some ad455) t444.length co53 : Value).ownBlock ∧ some k_ ≠ (v462 : Value).ownBlock ∧ some k_ ≠ (.slice (some ad443) t437.length co51 : Value).ownBlock) v468 t467) := ⟨h2_⟩
    have n3_ : Aside0 (Kd.R Kd.string 9 w65 w.heap.size (fun k_ => some k_ ≠ (.slice (some ad455) t444.length co53 : Value).ownBlock ∧ some k_ ≠ (v462 : Value).ownBlock ∧ some k_ ≠ (v468 : Value).ownBlock) (.slice (some ad443) t437.length co51) t437) := ⟨h3_⟩
    have n4_ : Aside0 (w65.heap[gb435]? = some (.cells #[.int .i64 0, .int .i64 0, .int .i64 0, .int .i64 0, .int .i64 0, .int .i64 0] 23 (0, 0))) := ⟨h4_⟩
    have n5_ : Aside0 (w65.heap[gb436]? = some (.cells #[.int .i64 0, .int .i64 0, .int .i64 0, .int .i64 0, .int .i64 0, .int .i64 0] 23 (0, 0))) := ⟨h5_⟩
    have n6_ : Aside0 (Below w.heap.size w w65) := ⟨h6_⟩
    clear HO_5
    clear HO446
    clear BK435
    clear BK436
    clear HB
    clear h0_ h1_ h2_ h3_ h4_ h5_ h6_
    have HO446 := n0_
    have HO463 := n1_
    have HO469 := n2_
    have HO_5 := n3_
    have BK435 := n4_
    have BK436 := n5_
    have HB := n6_
    clear n0_ n1_ n2_ n3_ n4_ n5_ n6_
    have hHeld : w65.cell? ⟨ad443.block, ad443.off + 2, none⟩ = some (.string (rdOf ByteArray.empty t437 2)) ∧ w65.cell? ⟨ad443.block, ad443.off + 2, none⟩ = some (.string (rdOf ByteArray.empty t437 2)) ∧ w65.cell? ⟨ad443.block, ad443.off + 1, none⟩ = some (.string (rdOf ByteArray.empty t437 1)) := hS_
    refine norm_ (a' := ?_) ?_ ?_
    rotate_left
    ·
     simp only [putAll, Act.put, List.setIfInBounds_toArray, List.set_cons_zero, List.set_cons_succ]
     rfl
    refine one_ (i := 21) (N := some 15) #[true, true, true, true, true, true, true, true, true, true, true, true, true, true, true, true, true, true, true, true, true, true, false] rfl rfl (one_of HT_.out (by kernel_rfl)) (by decide) (fun K hK => ?_)
    refine box_step ?hg (N := 15) ?hd (cs := #[.int .i64 0, .int .i64 0, .int .i64 0, .int .i64 0, .int .i64 0, .int .i64 0]) (t := 23) ?hr ?_; (case hd => rfl); (case hg => rfl); (case hr => exact zqS)
    intro gb472 hg w66 hbox hb
    have HS0_ := (hb.cell (World.block_lt_of_cell? _ _ (hHeld.1))).trans (hHeld.1)
    have HS1_ := (hb.cell (World.block_lt_of_cell? _ _ (hHeld.2.1))).trans (hHeld.2.1)
    have HS2_ := (hb.cell (World.block_lt_of_cell? _ _ (hHeld.2.2))).trans (hHeld.2.2)
    have n0_ := Aside0.mk (Kd.R_below (zqR HO_5.out) hb)
    have n1_ := Aside0.mk (Kd.R_below (zqR HO446.out) hb)
    have n2_ := Aside0.mk (Kd.R_below (zqR HO463.out) hb)
    have n3_ := Aside0.mk (Kd.R_below (zqR HO469.out) hb)
    have n4_ := Aside0.mk (blk_below (g := gb435) (o := .cells #[.int .i64 0, .int .i64 0, .int .i64 0, .int .i64 0, .int .i64 0, .int .i64 0] 23 (0, 0)) (zqK BK435.out) hb)
    have n5_ := Aside0.mk (blk_below (g := gb436) (o := .cells #[.int .i64 0, .int .i64 0, .int .i64 0, .int .i64 0, .int .i64 0, .int .i64 0] 23 (0, 0)) (zqK BK436.out) hb)
    have n6_ := Aside0.mk (below_step zq3 hb)
    have n7_ := Aside0.mk (hbox)
    have n8_ := Aside0.mk ((by rw [hg]; exact (below_size zq3) : w.heap.size ≤ gb472))
    have n9_ := Aside0.mk ((by rw [hg]; exact (below_size zq3) : w.heap.size ≤ gb472))
    have n10_ := Aside0.mk ((by rw [hg]; exact Nat.ne_of_lt (blk_lt (g := gb435) (o := .cells #[.int .i64 0, .int .i64 0, .int .i64 0, .int .i64 0, .int .i64 0, .int .i64 0] 23 (0, 0)) (zqK BK435.out)) : gb435 ≠ gb472))
    have n11_ := Aside0.mk ((by rw [hg]; exact Nat.ne_of_gt (blk_lt (g := gb435) (o := .cells #[.int .i64 0, .int .i64 0, .int .i64 0, .int .i64 0, .int .i64 0, .int .i64 0] 23 (0, 0)) (zqK BK435.out)) : gb472 ≠ gb435))
    have n12_ := Aside0.mk ((by rw [hg]; exact Nat.ne_of_lt (blk_lt (g := gb436) (o := .cells #[.int .i64 0, .int .i64 0, .int .i64 0, .int .i64 0, .int .i64 0, .int .i64 0] 23 (0, 0)) (zqK BK436.out)) : gb436 ≠ gb472))
    have n13_ := Aside0.mk ((by rw [hg]; exact Nat.ne_of_gt (blk_lt (g := gb436) (o := .cells #[.int .i64 0, .int .i64 0, .int .i64 0, .int .i64 0, .int .i64 0, .int .i64 0] 23 (0, 0)) (zqK BK436.out)) : gb472 ≠ gb436))
    clear HO_5
    clear HO446
    clear HO463
    clear HO469
    clear BK435
    clear BK436
    clear HB
    have HO_5 := n0_
    have HO446 := n1_
    have HO463 := n2_
    have HO469 := n3_
    have BK435 := n4_
    have BK436 := n5_
    have HB := n6_
    have BK472 := n7_
    have GW472 := n8_
    have GE472 := n9_
    have NB435_472 := n10_
    have NB472_435 := n11_
    have NB436_472 := n12_
    have NB472_436 := n13_
    clear n0_ n1_ n2_ n3_ n4_ n5_ n6_ n7_ n8_ n9_ n10_ n11_ n12_ n13_
    clear hb hbox hg
    refine hK.out _ _ ⟨HS0_, HS1_, HS2_⟩ (fun hHeld => ?_)
    clear hK K
    refine norm_ (a' := ?_) ?_ ?_
    rotate_left
    ·
     show Act.put _ (some 15) _ = _
     simp only [Act.put, List.setIfInBounds_toArray, List.set_cons_zero, List.set_cons_succ, i64_w, i32_w]
     rfl
    exact norm_ (by first | (simp only [putAll, Act.put, List.setIfInBounds_toArray, List.set_cons_zero, List.set_cons_succ]; done) | (simp only [putAll, Act.put, List.setIfInBounds_toArray, List.set_cons_zero, List.set_cons_succ]; rfl)) (hJ1_11_12_16_21 (_, _, gb472) _ ⟨hHeld, (zqR HO446.out), (zqR HO463.out), (zqR HO469.out), (zqR HO_5.out), (zqK BK435.out), (zqK BK436.out), (zqK BK472.out), GW472.out, GE472.out, NB435_472.out, NB472_435.out, NB436_472.out, NB472_436.out, zq5⟩)
  rintro ⟨v462, v468, gb472⟩ w66 ⟨hS_, h0_, h1_, h2_, h3_, h4_, h5_, h6_, h7_, h8_, h9_, h10_, h11_, h12_, h13_⟩
  have n0_ : Aside0 (Kd.R Kd.string 9 w66 w.heap.size (fun k_ => some k_ ≠ (v462 : Value).ownBlock ∧ some k_ ≠ (v468 : Value).ownBlock ∧ some k_ ≠ (.slice (some ad443) t437.length co51 : Value).ownBlock) (.slice (some ad455) t444.length co53) t444) := ⟨h0_⟩
  have n1_ : Aside0 (Kd.R Kd.string 9 w66 w.heap.size (fun k_ => some k_ ≠ (.slice (some ad455) t444.length co53 : Value).ownBlock ∧ some k_ ≠ (v468 : Value).ownBlock ∧ some k_ ≠ (.slice (some ad443) t437.length co51 : Value).ownBlock) v462 t461) := ⟨h1_⟩
  have n2_ : Aside0 (Kd.R Kd.string 9 w66 w.heap.size (fun k_ => some k_ ≠ (.slice (some ad455) t444.length co53 : Value).ownBlock ∧ some k_ ≠ (v462 : Value).ownBlock ∧ some k_ ≠ (.slice (some ad443) t437.length co51 : Value).ownBlock) v468 t467) := ⟨h2_⟩
  have n3_ : Aside0 (Kd.R Kd.string 9 w66 w.heap.size (fun k_ => some k_ ≠ (.slice (some ad455) t444.length co53 : Value).ownBlock ∧ some k_ ≠ (v462 : Value).ownBlock ∧ some k_ ≠ (v468 : Value).ownBlock) (.slice (some ad443) t437.length co51) t437) := ⟨h3_⟩
  have n4_ : Aside0 (w66.heap[gb435]? = some (.cells #[.int .i64 0, .int .i64 0, .int .i64 0, .int .i64 0, .int .i64 0, .int .i64 0] 23 (0, 0))) := ⟨h4_⟩
  have n5_ : Aside0 (w66.heap[gb436]? = some (.cells #[.int .i64 0, .int .i64 0, .int .i64 0, .int .i64 0, .int .i64 0, .int .i64 0] 23 (0, 0))) := ⟨h5_⟩
  have n6_ : Aside0 (w66.heap[gb472]? = some (.cells #[.int .i64 0, .int .i64 0, .int .i64 0, .int .i64 0, .int .i64 0, .int .i64 0] 23 (0, 0))) := ⟨h6_⟩
  have n7_ : Aside0 (w.heap.size ≤ gb472) := ⟨h7_⟩
  have n8_ : Aside0 (w.heap.size ≤ gb472) := ⟨h8_⟩
  have n9_ : Aside0 (gb435 ≠ gb472) := ⟨h9_⟩
  have n10_ : Aside0 (gb472 ≠ gb435) := ⟨h10_⟩
  have n11_ : Aside0 (gb436 ≠ gb472) := ⟨h11_⟩
  have n12_ : Aside0 (gb472 ≠ gb436) := ⟨h12_⟩
  have n13_ : Aside0 (Below w.heap.size w w66) := ⟨h13_⟩
  clear HO_5
  clear HO446
  clear BK435
  clear BK436
  clear HB
  clear h0_ h1_ h2_ h3_ h4_ h5_ h6_ h7_ h8_ h9_ h10_ h11_ h12_ h13_
  have HO446 := n0_
  have HO463 := n1_
  have HO469 := n2_
  have HO_5 := n3_
  have BK435 := n4_
  have BK436 := n5_
  have BK472 := n6_
  have GW472 := n7_
  have GE472 := n8_
  have NB435_472 := n9_
  have NB472_435 := n10_
  have NB436_472 := n11_
  have NB472_436 := n12_
  have HB := n13_
  clear n0_ n1_ n2_ n3_ n4_ n5_ n6_ n7_ n8_ n9_ n10_ n11_ n12_ n13_
  have hHeld : w66.cell? ⟨ad443.block, ad443.off + 2, none⟩ = some (.string (rdOf ByteArray.empty t437 2)) ∧ w66.cell? ⟨ad443.block, ad443.off + 2, none⟩ = some (.string (rdOf ByteArray.empty t437 2)) ∧ w66.cell? ⟨ad443.block, ad443.off + 1, none⟩ = some (.string (rdOf ByteArray.empty t437 1)) := hS_
  refine norm_ (a' := ?_) ?_ ?_
  rotate_left
  ·
   simp only [putAll, Act.put, List.setIfInBounds_toArray, List.set_cons_zero, List.set_cons_succ]
   rfl
  refine one_ (i := 22) (N := none) #[true, true, true, true, true, true, true, true, true, true, true, true, true, true, true, true, true, true, true, true, true, true, true] rfl rfl (one_of HT_.out (by kernel_rfl)) (by decide) (fun K hK => ?_)
  have hs67 : w66.cell? ⟨gb472, 0, none⟩ = some (.int .i64 0) := (blk_cell BK472.out 0).trans rfl
  have hfs67 := blk_frozen BK472.out 0
  have hns67_0 := NB435_472.out
  have hns67_1 := NB436_472.out
  have hms67_0 := NB472_435.out
  have hms67_1 := NB472_436.out
  have hs68 : w66.cell? ⟨gb472, 1, none⟩ = some (.int .i64 0) := (blk_cell BK472.out 1).trans rfl
  have hfs68 := blk_frozen BK472.out 1
  have hns68_0 := NB435_472.out
  have hns68_1 := NB436_472.out
  have hms68_0 := NB472_435.out
  have hms68_1 := NB472_436.out
  have hs69 : w66.cell? ⟨gb472, 2, none⟩ = some (.int .i64 0) := (blk_cell BK472.out 2).trans rfl
  have hfs69 := blk_frozen BK472.out 2
  have hns69_0 := NB435_472.out
  have hns69_1 := NB436_472.out
  have hms69_0 := NB472_435.out
  have hms69_1 := NB472_436.out
  have hs70 : w66.cell? ⟨gb472, 3, none⟩ = some (.int .i64 0) := (blk_cell BK472.out 3).trans rfl
  have hfs70 := blk_frozen BK472.out 3
  have hns70_0 := NB435_472.out
  have hns70_1 := NB436_472.out
  have hms70_0 := NB472_435.out
  have hms70_1 := NB472_436.out
  have hs71 : w66.cell? ⟨gb472, 4, none⟩ = some (.int .i64 0) := (blk_cell BK472.out 4).trans rfl
  have hfs71 := blk_frozen BK472.out 4
  have hns71_0 := NB435_472.out
  have hns71_1 := NB436_472.out
  have hms71_0 := NB472_435.out
  have hms71_1 := NB472_436.out
  have hs72 : w66.cell? ⟨gb472, 5, none⟩ = some (.int .i64 0) := (blk_cell BK472.out 5).trans rfl
  have hfs72 := blk_frozen BK472.out 5
  have hns72_0 := NB435_472.out
  have hns72_1 := NB436_472.out
  have hms72_0 := NB472_435.out
  have hms72_1 := NB472_436.out
  refine skip_ (w1 := ?_) (by rfl) rfl ?_ ?_
  rotate_left
  ·
   go_simp
   rfl
  refine hK.out _ _ ⟨far6d hHeld.1 (by first | exact Kd.own_blk (Kd.R_ne HO_5.out BK472.out (by decide)) | (dsimp only; exact Kd.own_blk (Kd.R_ne HO_5.out BK472.out (by decide)))) _ _ _ _ _ _, far6d hHeld.2.1 (by first | exact Kd.own_blk (Kd.R_ne HO_5.out BK472.out (by decide)) | (dsimp only; exact Kd.own_blk (Kd.R_ne HO_5.out BK472.out (by decide)))) _ _ _ _ _ _, far6d hHeld.2.2 (by first | exact Kd.own_blk (Kd.R_ne HO_5.out BK472.out (by decide)) | (dsimp only; exact Kd.own_blk (Kd.R_ne HO_5.out BK472.out (by decide)))) _ _ _ _ _ _⟩ (fun hHeld => ?_)
  clear hK K
  refine done_ (done_of HT_.out (by kernel_rfl)) ?_
  go_upto_region 13 with (fail)
  go_cut [142] (fun v142 wc => ∃ (kq : Nat) (x142_49 : Bool), v142 = .bool x142_49 ∧ Aside0 (spec_l17Parse.j1 kq x142_49 0 0 0 0 0 0 t449 t466 t471 t453 t456 t459 = some (r1, r2, r3, r4, r5, r6, r7)) ∧ Aside0 (kq ≤ kj2) ∧ Aside0 (wc.heap[gb435]? = some (.cells #[.int .i64 0, .int .i64 0, .int .i64 0, .int .i64 0, .int .i64 0, .int .i64 0] 23 (0, 0))) ∧ Aside0 (wc.heap[gb436]? = some (.cells #[.int .i64 0, .int .i64 0, .int .i64 0, .int .i64 0, .int .i64 0, .int .i64 0] 23 (0, 0))) ∧ Aside0 (wc.heap[gb472]? = some (.cells #[.int .i64 t449, .int .i64 t466, .int .i64 t471, .int .i64 t453, .int .i64 t456, .int .i64 t459] 23 (0, 0))) ∧ Aside0 (Below w.heap.size w wc))
  case first =>
   have H := HC50.out
   clear HC50
   by_cases c73 : t450 = true
   case neg =>
    replace c73 := Bool.eq_false_iff.mpr c73
    subst c73
    have H1 : (spec_l17Parse.j1 kj2 true 0 0 0 0 0 0 t449 t466 t471 t453 t456 t459) = some (r1, r2, r3, r4, r5, r6, r7) := by rw [if_neg (show ¬ (false = true) by decide)] at H; exact H
    clear H
    have H := H1
    clear H1
    have H' := Aside0.mk H
    clear H
    go_wp2
    go_meet
    case rel => exact ⟨_, (true), (by first | rfl | (simp; done) | (simp [*]; done)), H', ⟨by have := HJ2.out; first | omega | exact Nat.le_refl _⟩, ⟨by (with_reducible repeat (first | refine blk_drewN ?_ _ | refine blk_drew ?_ | refine blk_alloc ?_ _)); refine blk_far ?_ NB435_472.out _; (with_reducible repeat (first | refine blk_drewN ?_ _ | refine blk_drew ?_ | refine blk_alloc ?_ _)); refine blk_far ?_ NB435_472.out _; (with_reducible repeat (first | refine blk_drewN ?_ _ | refine blk_drew ?_ | refine blk_alloc ?_ _)); refine blk_far ?_ NB435_472.out _; (with_reducible repeat (first | refine blk_drewN ?_ _ | refine blk_drew ?_ | refine blk_alloc ?_ _)); refine blk_far ?_ NB435_472.out _; (with_reducible repeat (first | refine blk_drewN ?_ _ | refine blk_drew ?_ | refine blk_alloc ?_ _)); refine blk_far ?_ NB435_472.out _; (with_reducible repeat (first | refine blk_drewN ?_ _ | refine blk_drew ?_ | refine blk_alloc ?_ _)); refine blk_far ?_ NB435_472.out _; (with_reducible repeat (first | refine blk_drewN ?_ _ | refine blk_drew ?_ | refine blk_alloc ?_ _)); exact BK435.out⟩, ⟨by (with_reducible repeat (first | refine blk_drewN ?_ _ | refine blk_drew ?_ | refine blk_alloc ?_ _)); refine blk_far ?_ NB436_472.out _; (with_reducible repeat (first | refine blk_drewN ?_ _ | refine blk_drew ?_ | refine blk_alloc ?_ _)); refine blk_far ?_ NB436_472.out _; (with_reducible repeat (first | refine blk_drewN ?_ _ | refine blk_drew ?_ | refine blk_alloc ?_ _)); refine blk_far ?_ NB436_472.out _; (with_reducible repeat (first | refine blk_drewN ?_ _ | refine blk_drew ?_ | refine blk_alloc ?_ _)); refine blk_far ?_ NB436_472.out _; (with_reducible repeat (first | refine blk_drewN ?_ _ | refine blk_drew ?_ | refine blk_alloc ?_ _)); refine blk_far ?_ NB436_472.out _; (with_reducible repeat (first | refine blk_drewN ?_ _ | refine blk_drew ?_ | refine blk_alloc ?_ _)); refine blk_far ?_ NB436_472.out _; (with_reducible repeat (first | refine blk_drewN ?_ _ | refine blk_drew ?_ | refine blk_alloc ?_ _)); exact BK436.out⟩, ⟨by (with_reducible repeat (first | refine blk_drewN ?_ _ | refine blk_drew ?_ | refine blk_alloc ?_ _)); refine blk_put (cs := #[.int .i64 t449, .int .i64 t466, .int .i64 t471, .int .i64 t453, .int .i64 t456, .int .i64 0]) ?_ 5 _ rfl; (with_reducible repeat (first | refine blk_drewN ?_ _ | refine blk_drew ?_ | refine blk_alloc ?_ _)); refine blk_put (cs := #[.int .i64 t449, .int .i64 t466, .int .i64 t471, .int .i64 t453, .int .i64 0, .int .i64 0]) ?_ 4 _ rfl; (with_reducible repeat (first | refine blk_drewN ?_ _ | refine blk_drew ?_ | refine blk_alloc ?_ _)); refine blk_put (cs := #[.int .i64 t449, .int .i64 t466, .int .i64 t471, .int .i64 0, .int .i64 0, .int .i64 0]) ?_ 3 _ rfl; (with_reducible repeat (first | refine blk_drewN ?_ _ | refine blk_drew ?_ | refine blk_alloc ?_ _)); refine blk_put (cs := #[.int .i64 t449, .int .i64 t466, .int .i64 0, .int .i64 0, .int .i64 0, .int .i64 0]) ?_ 2 _ rfl; (with_reducible repeat (first | refine blk_drewN ?_ _ | refine blk_drew ?_ | refine blk_alloc ?_ _)); refine blk_put (cs := #[.int .i64 t449, .int .i64 0, .int .i64 0, .int .i64 0, .int .i64 0, .int .i64 0]) ?_ 1 _ rfl; (with_reducible repeat (first | refine blk_drewN ?_ _ | refine blk_drew ?_ | refine blk_alloc ?_ _)); refine blk_put (cs := #[.int .i64 0, .int .i64 0, .int .i64 0, .int .i64 0, .int .i64 0, .int .i64 0]) ?_ 0 _ rfl; (with_reducible repeat (first | refine blk_drewN ?_ _ | refine blk_drew ?_ | refine blk_alloc ?_ _)); exact BK472.out⟩, ⟨zq5⟩⟩
   subst c73
   have H1 : (if t454 = true then (if t457 = true then (if t460 = true then ((spec_l14Good.f t449 t466 t471 t453 t456 t459).bind fun t473 => (if t473 = true then ((spec_l17Line.f kj2 t449 t466 t471 t453 t456 t459).bind fun t474 => (spec_l17Parse.j1 kj2 (t474.toList != a0.toList) 0 0 0 0 0 0 t449 t466 t471 t453 t456 t459)) else (spec_l17Parse.j1 kj2 true 0 0 0 0 0 0 t449 t466 t471 t453 t456 t459))) else (spec_l17Parse.j1 kj2 true 0 0 0 0 0 0 t449 t466 t471 t453 t456 t459)) else (spec_l17Parse.j1 kj2 true 0 0 0 0 0 0 t449 t466 t471 t453 t456 t459)) else (spec_l17Parse.j1 kj2 true 0 0 0 0 0 0 t449 t466 t471 t453 t456 t459)) = some (r1, r2, r3, r4, r5, r6, r7) := by rw [if_pos rfl] at H; exact H
   clear H
   have H := H1
   clear H1
   by_cases c74 : t454 = true
   case neg =>
    replace c74 := Bool.eq_false_iff.mpr c74
    subst c74
    have H1 : (spec_l17Parse.j1 kj2 true 0 0 0 0 0 0 t449 t466 t471 t453 t456 t459) = some (r1, r2, r3, r4, r5, r6, r7) := by rw [if_neg (show ¬ (false = true) by decide)] at H; exact H
    clear H
    have H := H1
    clear H1
    have H' := Aside0.mk H
    clear H
    go_wp2
    go_meet
    case rel => exact ⟨_, (true), (by first | rfl | (simp; done) | (simp [*]; done)), H', ⟨by have := HJ2.out; first | omega | exact Nat.le_refl _⟩, ⟨by (with_reducible repeat (first | refine blk_drewN ?_ _ | refine blk_drew ?_ | refine blk_alloc ?_ _)); refine blk_far ?_ NB435_472.out _; (with_reducible repeat (first | refine blk_drewN ?_ _ | refine blk_drew ?_ | refine blk_alloc ?_ _)); refine blk_far ?_ NB435_472.out _; (with_reducible repeat (first | refine blk_drewN ?_ _ | refine blk_drew ?_ | refine blk_alloc ?_ _)); refine blk_far ?_ NB435_472.out _; (with_reducible repeat (first | refine blk_drewN ?_ _ | refine blk_drew ?_ | refine blk_alloc ?_ _)); refine blk_far ?_ NB435_472.out _; (with_reducible repeat (first | refine blk_drewN ?_ _ | refine blk_drew ?_ | refine blk_alloc ?_ _)); refine blk_far ?_ NB435_472.out _; (with_reducible repeat (first | refine blk_drewN ?_ _ | refine blk_drew ?_ | refine blk_alloc ?_ _)); refine blk_far ?_ NB435_472.out _; (with_reducible repeat (first | refine blk_drewN ?_ _ | refine blk_drew ?_ | refine blk_alloc ?_ _)); exact BK435.out⟩, ⟨by (with_reducible repeat (first | refine blk_drewN ?_ _ | refine blk_drew ?_ | refine blk_alloc ?_ _)); refine blk_far ?_ NB436_472.out _; (with_reducible repeat (first | refine blk_drewN ?_ _ | refine blk_drew ?_ | refine blk_alloc ?_ _)); refine blk_far ?_ NB436_472.out _; (with_reducible repeat (first | refine blk_drewN ?_ _ | refine blk_drew ?_ | refine blk_alloc ?_ _)); refine blk_far ?_ NB436_472.out _; (with_reducible repeat (first | refine blk_drewN ?_ _ | refine blk_drew ?_ | refine blk_alloc ?_ _)); refine blk_far ?_ NB436_472.out _; (with_reducible repeat (first | refine blk_drewN ?_ _ | refine blk_drew ?_ | refine blk_alloc ?_ _)); refine blk_far ?_ NB436_472.out _; (with_reducible repeat (first | refine blk_drewN ?_ _ | refine blk_drew ?_ | refine blk_alloc ?_ _)); refine blk_far ?_ NB436_472.out _; (with_reducible repeat (first | refine blk_drewN ?_ _ | refine blk_drew ?_ | refine blk_alloc ?_ _)); exact BK436.out⟩, ⟨by (with_reducible repeat (first | refine blk_drewN ?_ _ | refine blk_drew ?_ | refine blk_alloc ?_ _)); refine blk_put (cs := #[.int .i64 t449, .int .i64 t466, .int .i64 t471, .int .i64 t453, .int .i64 t456, .int .i64 0]) ?_ 5 _ rfl; (with_reducible repeat (first | refine blk_drewN ?_ _ | refine blk_drew ?_ | refine blk_alloc ?_ _)); refine blk_put (cs := #[.int .i64 t449, .int .i64 t466, .int .i64 t471, .int .i64 t453, .int .i64 0, .int .i64 0]) ?_ 4 _ rfl; (with_reducible repeat (first | refine blk_drewN ?_ _ | refine blk_drew ?_ | refine blk_alloc ?_ _)); refine blk_put (cs := #[.int .i64 t449, .int .i64 t466, .int .i64 t471, .int .i64 0, .int .i64 0, .int .i64 0]) ?_ 3 _ rfl; (with_reducible repeat (first | refine blk_drewN ?_ _ | refine blk_drew ?_ | refine blk_alloc ?_ _)); refine blk_put (cs := #[.int .i64 t449, .int .i64 t466, .int .i64 0, .int .i64 0, .int .i64 0, .int .i64 0]) ?_ 2 _ rfl; (with_reducible repeat (first | refine blk_drewN ?_ _ | refine blk_drew ?_ | refine blk_alloc ?_ _)); refine blk_put (cs := #[.int .i64 t449, .int .i64 0, .int .i64 0, .int .i64 0, .int .i64 0, .int .i64 0]) ?_ 1 _ rfl; (with_reducible repeat (first | refine blk_drewN ?_ _ | refine blk_drew ?_ | refine blk_alloc ?_ _)); refine blk_put (cs := #[.int .i64 0, .int .i64 0, .int .i64 0, .int .i64 0, .int .i64 0, .int .i64 0]) ?_ 0 _ rfl; (with_reducible repeat (first | refine blk_drewN ?_ _ | refine blk_drew ?_ | refine blk_alloc ?_ _)); exact BK472.out⟩, ⟨zq5⟩⟩
   subst c74
   have H1 : (if t457 = true then (if t460 = true then ((spec_l14Good.f t449 t466 t471 t453 t456 t459).bind fun t473 => (if t473 = true then ((spec_l17Line.f kj2 t449 t466 t471 t453 t456 t459).bind fun t474 => (spec_l17Parse.j1 kj2 (t474.toList != a0.toList) 0 0 0 0 0 0 t449 t466 t471 t453 t456 t459)) else (spec_l17Parse.j1 kj2 true 0 0 0 0 0 0 t449 t466 t471 t453 t456 t459))) else (spec_l17Parse.j1 kj2 true 0 0 0 0 0 0 t449 t466 t471 t453 t456 t459)) else (spec_l17Parse.j1 kj2 true 0 0 0 0 0 0 t449 t466 t471 t453 t456 t459)) = some (r1, r2, r3, r4, r5, r6, r7) := by rw [if_pos rfl] at H; exact H
   clear H
   have H := H1
   clear H1
   by_cases c75 : t457 = true
   case neg =>
    replace c75 := Bool.eq_false_iff.mpr c75
    subst c75
    have H1 : (spec_l17Parse.j1 kj2 true 0 0 0 0 0 0 t449 t466 t471 t453 t456 t459) = some (r1, r2, r3, r4, r5, r6, r7) := by rw [if_neg (show ¬ (false = true) by decide)] at H; exact H
    clear H
    have H := H1
    clear H1
    have H' := Aside0.mk H
    clear H
    go_wp2
    go_meet
    case rel => exact ⟨_, (true), (by first | rfl | (simp; done) | (simp [*]; done)), H', ⟨by have := HJ2.out; first | omega | exact Nat.le_refl _⟩, ⟨by (with_reducible repeat (first | refine blk_drewN ?_ _ | refine blk_drew ?_ | refine blk_alloc ?_ _)); refine blk_far ?_ NB435_472.out _; (with_reducible repeat (first | refine blk_drewN ?_ _ | refine blk_drew ?_ | refine blk_alloc ?_ _)); refine blk_far ?_ NB435_472.out _; (with_reducible repeat (first | refine blk_drewN ?_ _ | refine blk_drew ?_ | refine blk_alloc ?_ _)); refine blk_far ?_ NB435_472.out _; (with_reducible repeat (first | refine blk_drewN ?_ _ | refine blk_drew ?_ | refine blk_alloc ?_ _)); refine blk_far ?_ NB435_472.out _; (with_reducible repeat (first | refine blk_drewN ?_ _ | refine blk_drew ?_ | refine blk_alloc ?_ _)); refine blk_far ?_ NB435_472.out _; (with_reducible repeat (first | refine blk_drewN ?_ _ | refine blk_drew ?_ | refine blk_alloc ?_ _)); refine blk_far ?_ NB435_472.out _; (with_reducible repeat (first | refine blk_drewN ?_ _ | refine blk_drew ?_ | refine blk_alloc ?_ _)); exact BK435.out⟩, ⟨by (with_reducible repeat (first | refine blk_drewN ?_ _ | refine blk_drew ?_ | refine blk_alloc ?_ _)); refine blk_far ?_ NB436_472.out _; (with_reducible repeat (first | refine blk_drewN ?_ _ | refine blk_drew ?_ | refine blk_alloc ?_ _)); refine blk_far ?_ NB436_472.out _; (with_reducible repeat (first | refine blk_drewN ?_ _ | refine blk_drew ?_ | refine blk_alloc ?_ _)); refine blk_far ?_ NB436_472.out _; (with_reducible repeat (first | refine blk_drewN ?_ _ | refine blk_drew ?_ | refine blk_alloc ?_ _)); refine blk_far ?_ NB436_472.out _; (with_reducible repeat (first | refine blk_drewN ?_ _ | refine blk_drew ?_ | refine blk_alloc ?_ _)); refine blk_far ?_ NB436_472.out _; (with_reducible repeat (first | refine blk_drewN ?_ _ | refine blk_drew ?_ | refine blk_alloc ?_ _)); refine blk_far ?_ NB436_472.out _; (with_reducible repeat (first | refine blk_drewN ?_ _ | refine blk_drew ?_ | refine blk_alloc ?_ _)); exact BK436.out⟩, ⟨by (with_reducible repeat (first | refine blk_drewN ?_ _ | refine blk_drew ?_ | refine blk_alloc ?_ _)); refine blk_put (cs := #[.int .i64 t449, .int .i64 t466, .int .i64 t471, .int .i64 t453, .int .i64 t456, .int .i64 0]) ?_ 5 _ rfl; (with_reducible repeat (first | refine blk_drewN ?_ _ | refine blk_drew ?_ | refine blk_alloc ?_ _)); refine blk_put (cs := #[.int .i64 t449, .int .i64 t466, .int .i64 t471, .int .i64 t453, .int .i64 0, .int .i64 0]) ?_ 4 _ rfl; (with_reducible repeat (first | refine blk_drewN ?_ _ | refine blk_drew ?_ | refine blk_alloc ?_ _)); refine blk_put (cs := #[.int .i64 t449, .int .i64 t466, .int .i64 t471, .int .i64 0, .int .i64 0, .int .i64 0]) ?_ 3 _ rfl; (with_reducible repeat (first | refine blk_drewN ?_ _ | refine blk_drew ?_ | refine blk_alloc ?_ _)); refine blk_put (cs := #[.int .i64 t449, .int .i64 t466, .int .i64 0, .int .i64 0, .int .i64 0, .int .i64 0]) ?_ 2 _ rfl; (with_reducible repeat (first | refine blk_drewN ?_ _ | refine blk_drew ?_ | refine blk_alloc ?_ _)); refine blk_put (cs := #[.int .i64 t449, .int .i64 0, .int .i64 0, .int .i64 0, .int .i64 0, .int .i64 0]) ?_ 1 _ rfl; (with_reducible repeat (first | refine blk_drewN ?_ _ | refine blk_drew ?_ | refine blk_alloc ?_ _)); refine blk_put (cs := #[.int .i64 0, .int .i64 0, .int .i64 0, .int .i64 0, .int .i64 0, .int .i64 0]) ?_ 0 _ rfl; (with_reducible repeat (first | refine blk_drewN ?_ _ | refine blk_drew ?_ | refine blk_alloc ?_ _)); exact BK472.out⟩, ⟨zq5⟩⟩
   subst c75
   have H1 : (if t460 = true then ((spec_l14Good.f t449 t466 t471 t453 t456 t459).bind fun t473 => (if t473 = true then ((spec_l17Line.f kj2 t449 t466 t471 t453 t456 t459).bind fun t474 => (spec_l17Parse.j1 kj2 (t474.toList != a0.toList) 0 0 0 0 0 0 t449 t466 t471 t453 t456 t459)) else (spec_l17Parse.j1 kj2 true 0 0 0 0 0 0 t449 t466 t471 t453 t456 t459))) else (spec_l17Parse.j1 kj2 true 0 0 0 0 0 0 t449 t466 t471 t453 t456 t459)) = some (r1, r2, r3, r4, r5, r6, r7) := by rw [if_pos rfl] at H; exact H
   clear H
   have H := H1
   clear H1
   by_cases c76 : t460 = true
   case neg =>
    replace c76 := Bool.eq_false_iff.mpr c76
    subst c76
    have H1 : (spec_l17Parse.j1 kj2 true 0 0 0 0 0 0 t449 t466 t471 t453 t456 t459) = some (r1, r2, r3, r4, r5, r6, r7) := by rw [if_neg (show ¬ (false = true) by decide)] at H; exact H
    clear H
    have H := H1
    clear H1
    have H' := Aside0.mk H
    clear H
    go_wp2
    go_meet
    case rel => exact ⟨_, (true), (by first | rfl | (simp; done) | (simp [*]; done)), H', ⟨by have := HJ2.out; first | omega | exact Nat.le_refl _⟩, ⟨by (with_reducible repeat (first | refine blk_drewN ?_ _ | refine blk_drew ?_ | refine blk_alloc ?_ _)); refine blk_far ?_ NB435_472.out _; (with_reducible repeat (first | refine blk_drewN ?_ _ | refine blk_drew ?_ | refine blk_alloc ?_ _)); refine blk_far ?_ NB435_472.out _; (with_reducible repeat (first | refine blk_drewN ?_ _ | refine blk_drew ?_ | refine blk_alloc ?_ _)); refine blk_far ?_ NB435_472.out _; (with_reducible repeat (first | refine blk_drewN ?_ _ | refine blk_drew ?_ | refine blk_alloc ?_ _)); refine blk_far ?_ NB435_472.out _; (with_reducible repeat (first | refine blk_drewN ?_ _ | refine blk_drew ?_ | refine blk_alloc ?_ _)); refine blk_far ?_ NB435_472.out _; (with_reducible repeat (first | refine blk_drewN ?_ _ | refine blk_drew ?_ | refine blk_alloc ?_ _)); refine blk_far ?_ NB435_472.out _; (with_reducible repeat (first | refine blk_drewN ?_ _ | refine blk_drew ?_ | refine blk_alloc ?_ _)); exact BK435.out⟩, ⟨by (with_reducible repeat (first | refine blk_drewN ?_ _ | refine blk_drew ?_ | refine blk_alloc ?_ _)); refine blk_far ?_ NB436_472.out _; (with_reducible repeat (first | refine blk_drewN ?_ _ | refine blk_drew ?_ | refine blk_alloc ?_ _)); refine blk_far ?_ NB436_472.out _; (with_reducible repeat (first | refine blk_drewN ?_ _ | refine blk_drew ?_ | refine blk_alloc ?_ _)); refine blk_far ?_ NB436_472.out _; (with_reducible repeat (first | refine blk_drewN ?_ _ | refine blk_drew ?_ | refine blk_alloc ?_ _)); refine blk_far ?_ NB436_472.out _; (with_reducible repeat (first | refine blk_drewN ?_ _ | refine blk_drew ?_ | refine blk_alloc ?_ _)); refine blk_far ?_ NB436_472.out _; (with_reducible repeat (first | refine blk_drewN ?_ _ | refine blk_drew ?_ | refine blk_alloc ?_ _)); refine blk_far ?_ NB436_472.out _; (with_reducible repeat (first | refine blk_drewN ?_ _ | refine blk_drew ?_ | refine blk_alloc ?_ _)); exact BK436.out⟩, ⟨by (with_reducible repeat (first | refine blk_drewN ?_ _ | refine blk_drew ?_ | refine blk_alloc ?_ _)); refine blk_put (cs := #[.int .i64 t449, .int .i64 t466, .int .i64 t471, .int .i64 t453, .int .i64 t456, .int .i64 0]) ?_ 5 _ rfl; (with_reducible repeat (first | refine blk_drewN ?_ _ | refine blk_drew ?_ | refine blk_alloc ?_ _)); refine blk_put (cs := #[.int .i64 t449, .int .i64 t466, .int .i64 t471, .int .i64 t453, .int .i64 0, .int .i64 0]) ?_ 4 _ rfl; (with_reducible repeat (first | refine blk_drewN ?_ _ | refine blk_drew ?_ | refine blk_alloc ?_ _)); refine blk_put (cs := #[.int .i64 t449, .int .i64 t466, .int .i64 t471, .int .i64 0, .int .i64 0, .int .i64 0]) ?_ 3 _ rfl; (with_reducible repeat (first | refine blk_drewN ?_ _ | refine blk_drew ?_ | refine blk_alloc ?_ _)); refine blk_put (cs := #[.int .i64 t449, .int .i64 t466, .int .i64 0, .int .i64 0, .int .i64 0, .int .i64 0]) ?_ 2 _ rfl; (with_reducible repeat (first | refine blk_drewN ?_ _ | refine blk_drew ?_ | refine blk_alloc ?_ _)); refine blk_put (cs := #[.int .i64 t449, .int .i64 0, .int .i64 0, .int .i64 0, .int .i64 0, .int .i64 0]) ?_ 1 _ rfl; (with_reducible repeat (first | refine blk_drewN ?_ _ | refine blk_drew ?_ | refine blk_alloc ?_ _)); refine blk_put (cs := #[.int .i64 0, .int .i64 0, .int .i64 0, .int .i64 0, .int .i64 0, .int .i64 0]) ?_ 0 _ rfl; (with_reducible repeat (first | refine blk_drewN ?_ _ | refine blk_drew ?_ | refine blk_alloc ?_ _)); exact BK472.out⟩, ⟨zq5⟩⟩
   subst c76
   have H1 : ((spec_l14Good.f t449 t466 t471 t453 t456 t459).bind fun t473 => (if t473 = true then ((spec_l17Line.f kj2 t449 t466 t471 t453 t456 t459).bind fun t474 => (spec_l17Parse.j1 kj2 (t474.toList != a0.toList) 0 0 0 0 0 0 t449 t466 t471 t453 t456 t459)) else (spec_l17Parse.j1 kj2 true 0 0 0 0 0 0 t449 t466 t471 t453 t456 t459))) = some (r1, r2, r3, r4, r5, r6, r7) := by rw [if_pos rfl] at H; exact H
   clear H
   have H := H1
   clear H1
   replace H := Option.bind_eq_some_iff.mp H
   obtain ⟨t473, A770, H⟩ := H
   replace H : (if t473 = true then ((spec_l17Line.f kj2 t449 t466 t471 t453 t456 t459).bind fun t474 => (spec_l17Parse.j1 kj2 (t474.toList != a0.toList) 0 0 0 0 0 0 t449 t466 t471 t453 t456 t459)) else (spec_l17Parse.j1 kj2 true 0 0 0 0 0 0 t449 t466 t471 t453 t456 t459)) = some (r1, r2, r3, r4, r5, r6, r7) := H
   have A77 := Aside0.mk A770
   clear A770
   by_cases c78 : t473 = true
   case neg =>
    replace c78 := Bool.eq_false_iff.mpr c78
    subst c78
    have H1 : (spec_l17Parse.j1 kj2 true 0 0 0 0 0 0 t449 t466 t471 t453 t456 t459) = some (r1, r2, r3, r4, r5, r6, r7) := by rw [if_neg (show ¬ (false = true) by decide)] at H; exact H
    clear H
    have H := H1
    clear H1
    have H' := Aside0.mk H
    clear H
    have hnb86 := NB472_435.out
    have hnc86 := NB435_472.out
    have hnb87 := NB472_436.out
    have hnc87 := NB436_472.out
    obtain ⟨hcz88_0, hcz88_1, hcz88_2, hcz88_3, hcz88_4, hcz88_5, hfz88_0, hfz88_1, hfz88_2, hfz88_3, hfz88_4, hfz88_5⟩ := bz6 BK472.out
    go_wp2_with (first | (go_at_call 25; (with_reducible refine (spec_l14Good.calls t449 t466 t471 t453 t456 t459 false _ A77.out).mono ?_); rintro e w89 ⟨rfl, hb⟩; have n0_ := Aside0.mk (Kd.R_below zq27 hb); have n1_ := Aside0.mk (Kd.R_below zq24 hb); have n2_ := Aside0.mk (Kd.R_below zq25 hb); have n3_ := Aside0.mk (Kd.R_below zq26 hb); have n4_ := Aside0.mk (blk_below (g := gb435) (o := .cells #[.int .i64 0, .int .i64 0, .int .i64 0, .int .i64 0, .int .i64 0, .int .i64 0] 23 (0, 0)) zq21 hb); have n5_ := Aside0.mk (blk_below (g := gb436) (o := .cells #[.int .i64 0, .int .i64 0, .int .i64 0, .int .i64 0, .int .i64 0, .int .i64 0] 23 (0, 0)) zq22 hb); have n6_ := Aside0.mk (blk_below (g := gb472) (o := .cells #[.int .i64 t449, .int .i64 t466, .int .i64 t471, .int .i64 t453, .int .i64 t456, .int .i64 t459] 23 (0, 0)) zq13 hb); have n7_ := Aside0.mk (below_step zq5 hb); clear HO_5; clear HO446; clear HO463; clear HO469; clear BK435; clear BK436; clear BK472; clear HB; have HO_5 := n0_; have HO446 := n1_; have HO463 := n2_; have HO469 := n3_; have BK435 := n4_; have BK436 := n5_; have BK472 := n6_; have HB := n7_; clear n0_ n1_ n2_ n3_ n4_ n5_ n6_ n7_; (try clear hb); (try clear hb2); (try clear hk); (try clear hi)))
    go_meet
    case rel => exact ⟨_, (true), (by first | rfl | (simp; done) | (simp [*]; done)), H', ⟨by have := HJ2.out; first | omega | exact Nat.le_refl _⟩, ⟨by (with_reducible repeat (first | refine blk_drewN ?_ _ | refine blk_drew ?_ | refine blk_alloc ?_ _)); exact BK435.out⟩, ⟨by (with_reducible repeat (first | refine blk_drewN ?_ _ | refine blk_drew ?_ | refine blk_alloc ?_ _)); exact BK436.out⟩, ⟨by (with_reducible repeat (first | refine blk_drewN ?_ _ | refine blk_drew ?_ | refine blk_alloc ?_ _)); exact BK472.out⟩, ⟨zq5⟩⟩
   subst c78
   have H1 : ((spec_l17Line.f kj2 t449 t466 t471 t453 t456 t459).bind fun t474 => (spec_l17Parse.j1 kj2 (t474.toList != a0.toList) 0 0 0 0 0 0 t449 t466 t471 t453 t456 t459)) = some (r1, r2, r3, r4, r5, r6, r7) := by rw [if_pos rfl] at H; exact H
   clear H
   have H := H1
   clear H1
   replace H := Option.bind_eq_some_iff.mp H
   obtain ⟨t474, A790, H⟩ := H
   replace H : (spec_l17Parse.j1 kj2 (t474.toList != a0.toList) 0 0 0 0 0 0 t449 t466 t471 t453 t456 t459) = some (r1, r2, r3, r4, r5, r6, r7) := H
   have A79 := Aside0.mk A790
   clear A790
   have H' := Aside0.mk H
   clear H
   have hnb80 := NB472_435.out
   have hnc80 := NB435_472.out
   have hnb81 := NB472_436.out
   have hnc81 := NB436_472.out
   obtain ⟨hcz82_0, hcz82_1, hcz82_2, hcz82_3, hcz82_4, hcz82_5, hfz82_0, hfz82_1, hfz82_2, hfz82_3, hfz82_4, hfz82_5⟩ := bz6 BK472.out
   go_wp2_with (first | (go_at_call 25; (with_reducible refine (spec_l14Good.calls t449 t466 t471 t453 t456 t459 true _ A77.out).mono ?_); rintro e w83 ⟨rfl, hb⟩; have n0_ := Aside0.mk (Kd.R_below zq27 hb); have n1_ := Aside0.mk (Kd.R_below zq24 hb); have n2_ := Aside0.mk (Kd.R_below zq25 hb); have n3_ := Aside0.mk (Kd.R_below zq26 hb); have n4_ := Aside0.mk (blk_below (g := gb435) (o := .cells #[.int .i64 0, .int .i64 0, .int .i64 0, .int .i64 0, .int .i64 0, .int .i64 0] 23 (0, 0)) zq21 hb); have n5_ := Aside0.mk (blk_below (g := gb436) (o := .cells #[.int .i64 0, .int .i64 0, .int .i64 0, .int .i64 0, .int .i64 0, .int .i64 0] 23 (0, 0)) zq22 hb); have n6_ := Aside0.mk (blk_below (g := gb472) (o := .cells #[.int .i64 t449, .int .i64 t466, .int .i64 t471, .int .i64 t453, .int .i64 t456, .int .i64 t459] 23 (0, 0)) zq13 hb); have n7_ := Aside0.mk (below_step zq5 hb); clear HO_5; clear HO446; clear HO463; clear HO469; clear BK435; clear BK436; clear BK472; clear HB; have HO_5 := n0_; have HO446 := n1_; have HO463 := n2_; have HO469 := n3_; have BK435 := n4_; have BK436 := n5_; have BK472 := n6_; have HB := n7_; clear n0_ n1_ n2_ n3_ n4_ n5_ n6_ n7_; (try clear hb); (try clear hb2); (try clear hk); (try clear hi); obtain ⟨hcz84_0, hcz84_1, hcz84_2, hcz84_3, hcz84_4, hcz84_5, hfz84_0, hfz84_1, hfz84_2, hfz84_3, hfz84_4, hfz84_5⟩ := bz6 BK472.out) | (go_at_call 68; (with_reducible refine (spec_l17Line.calls kj2 t449 t466 t471 t453 t456 t459 t474 _ A79.out).mono ?_); rintro e w85 ⟨rfl, hb⟩; have n0_ := Aside0.mk (Kd.R_below (zqR HO_5.out) hb); have n1_ := Aside0.mk (Kd.R_below (zqR HO446.out) hb); have n2_ := Aside0.mk (Kd.R_below (zqR HO463.out) hb); have n3_ := Aside0.mk (Kd.R_below (zqR HO469.out) hb); have n4_ := Aside0.mk (blk_below (g := gb435) (o := .cells #[.int .i64 0, .int .i64 0, .int .i64 0, .int .i64 0, .int .i64 0, .int .i64 0] 23 (0, 0)) (zqK BK435.out) hb); have n5_ := Aside0.mk (blk_below (g := gb436) (o := .cells #[.int .i64 0, .int .i64 0, .int .i64 0, .int .i64 0, .int .i64 0, .int .i64 0] 23 (0, 0)) (zqK BK436.out) hb); have n6_ := Aside0.mk (blk_below (g := gb472) (o := .cells #[.int .i64 t449, .int .i64 t466, .int .i64 t471, .int .i64 t453, .int .i64 t456, .int .i64 t459] 23 (0, 0)) (zqK BK472.out) hb); have n7_ := Aside0.mk (below_step zq5 hb); clear HO_5; clear HO446; clear HO463; clear HO469; clear BK435; clear BK436; clear BK472; clear HB; have HO_5 := n0_; have HO446 := n1_; have HO463 := n2_; have HO469 := n3_; have BK435 := n4_; have BK436 := n5_; have BK472 := n6_; have HB := n7_; clear n0_ n1_ n2_ n3_ n4_ n5_ n6_ n7_; (try clear hb); (try clear hb2); (try clear hk); (try clear hi)))
   go_meet
   case rel => exact ⟨_, ((t474.toList != a0.toList)), (by first | rfl | (simp; done) | (simp [*]; done)), H', ⟨by have := HJ2.out; first | omega | exact Nat.le_refl _⟩, ⟨by (with_reducible repeat (first | refine blk_drewN ?_ _ | refine blk_drew ?_ | refine blk_alloc ?_ _)); exact BK435.out⟩, ⟨by (with_reducible repeat (first | refine blk_drewN ?_ _ | refine blk_drew ?_ | refine blk_alloc ?_ _)); exact BK436.out⟩, ⟨by (with_reducible repeat (first | refine blk_drewN ?_ _ | refine blk_drew ?_ | refine blk_alloc ?_ _)); exact BK472.out⟩, ⟨zq5⟩⟩
  clear HC50
  try clear p2
  try clear c6
  try clear c7
  try clear c8
  try clear c65
  try clear c67
  try clear c73
  try clear c74
  try clear c75
  try clear c76
  try clear c78
  try clear c80
  try clear c81
  try clear c86
  try clear c87
  try clear hcz82_0
  try clear hcz82_1
  try clear hcz82_2
  try clear hcz82_3
  try clear hcz82_4
  try clear hcz82_5
  try clear hcz84_0
  try clear hcz84_1
  try clear hcz84_2
  try clear hcz84_3
  try clear hcz84_4
  try clear hcz84_5
  try clear hcz88_0
  try clear hcz88_1
  try clear hcz88_2
  try clear hcz88_3
  try clear hcz88_4
  try clear hcz88_5
  try clear hfz82_0
  try clear hfz82_1
  try clear hfz82_2
  try clear hfz82_3
  try clear hfz82_4
  try clear hfz82_5
  try clear hfz84_0
  try clear hfz84_1
  try clear hfz84_2
  try clear hfz84_3
  try clear hfz84_4
  try clear hfz84_5
  try clear hfz88_0
  try clear hfz88_1
  try clear hfz88_2
  try clear hfz88_3
  try clear hfz88_4
  try clear hfz88_5
  obtain ⟨kq, x142_49, rfl, HA, HJ49, BK435, BK436, BK472, HB⟩ := hcut
  cases kq with
  | zero => exact absurd HA.out (by simp [spec_l17Parse.j1])
  | succ kj49 =>
   have H := HA.out
   clear HA
   simp only [spec_l17Parse.j1] at H
   by_cases c90 : x142_49 = true
   case pos =>
    subst c90
    have H1 : (some (0, 0, 0, 0, 0, 0, false)) = some (r1, r2, r3, r4, r5, r6, r7) := by rw [if_pos rfl] at H; exact H
    clear H
    have H := H1
    clear H1
    simp only [Option.some.injEq, Prod.mk.injEq] at H
    obtain ⟨rfl, rfl, rfl, rfl, rfl, rfl, rfl⟩ := H
    have hnb91 := NB436_435.out
    have hnc91 := NB435_436.out
    have hnb92 := NB436_472.out
    have hnc92 := NB472_436.out
    obtain ⟨hcz93_0, hcz93_1, hcz93_2, hcz93_3, hcz93_4, hcz93_5, hfz93_0, hfz93_1, hfz93_2, hfz93_3, hfz93_4, hfz93_5⟩ := bz6 BK436.out
    have hnb94 := NB435_472.out
    have hnc94 := NB472_435.out
    obtain ⟨hcz95_0, hcz95_1, hcz95_2, hcz95_3, hcz95_4, hcz95_5, hfz95_0, hfz95_1, hfz95_2, hfz95_3, hfz95_4, hfz95_5⟩ := bz6 BK435.out
    go_wp2
    refine bodyPost_ret (results_ct rfl _ _ gb435 23 #[.int .i64 0, .int .i64 0, .int .i64 0, .int .i64 0, .int .i64 0, .int .i64 0] (0, 0) _ rfl zq9 Tryd.underlying23 rfl (by kernel_rfl)) rfl ?_
    exact ⟨by first | rfl | (simp [errW_none, errW_some] <;> rfl) | (simp only [← hji28, ← hji33, ← hji43]; first | rfl | (simp [errW_none, errW_some] <;> rfl)) | (simp [*, errW_none, errW_some] <;> rfl), zq5⟩
   replace c90 := Bool.eq_false_iff.mpr c90
   subst c90
   have H1 : (some (t449, t466, t471, t453, t456, t459, true)) = some (r1, r2, r3, r4, r5, r6, r7) := by rw [if_neg (show ¬ (false = true) by decide)] at H; exact H
   clear H
   have H := H1
   clear H1
   simp only [Option.some.injEq, Prod.mk.injEq] at H
   obtain ⟨rfl, rfl, rfl, rfl, rfl, rfl, rfl⟩ := H
   have hnb96 := NB472_435.out
   have hnc96 := NB435_472.out
   have hnb97 := NB472_436.out
   have hnc97 := NB436_472.out
   obtain ⟨hcz98_0, hcz98_1, hcz98_2, hcz98_3, hcz98_4, hcz98_5, hfz98_0, hfz98_1, hfz98_2, hfz98_3, hfz98_4, hfz98_5⟩ := bz6 BK472.out
   have hnb99 := NB435_436.out
   have hnc99 := NB436_435.out
   obtain ⟨hcz100_0, hcz100_1, hcz100_2, hcz100_3, hcz100_4, hcz100_5, hfz100_0, hfz100_1, hfz100_2, hfz100_3, hfz100_4, hfz100_5⟩ := bz6 BK435.out
   go_wp2
   refine bodyPost_ret (results_ct rfl _ _ gb435 23 #[.int .i64 t449, .int .i64 t466, .int .i64 t471, .int .i64 t453, .int .i64 t456, .int .i64 t459] (0, 0) _ rfl (by (with_reducible repeat (first | refine blk_drewN ?_ _ | refine blk_drew ?_ | refine blk_alloc ?_ _)); refine blk_put (cs := #[.int .i64 t449, .int .i64 t466, .int .i64 t471, .int .i64 t453, .int .i64 t456, .int .i64 0]) ?_ 5 _ rfl; (with_reducible repeat (first | refine blk_drewN ?_ _ | refine blk_drew ?_ | refine blk_alloc ?_ _)); refine blk_put (cs := #[.int .i64 t449, .int .i64 t466, .int .i64 t471, .int .i64 t453, .int .i64 0, .int .i64 0]) ?_ 4 _ rfl; (with_reducible repeat (first | refine blk_drewN ?_ _ | refine blk_drew ?_ | refine blk_alloc ?_ _)); refine blk_put (cs := #[.int .i64 t449, .int .i64 t466, .int .i64 t471, .int .i64 0, .int .i64 0, .int .i64 0]) ?_ 3 _ rfl; (with_reducible repeat (first | refine blk_drewN ?_ _ | refine blk_drew ?_ | refine blk_alloc ?_ _)); refine blk_put (cs := #[.int .i64 t449, .int .i64 t466, .int .i64 0, .int .i64 0, .int .i64 0, .int .i64 0]) ?_ 2 _ rfl; (with_reducible repeat (first | refine blk_drewN ?_ _ | refine blk_drew ?_ | refine blk_alloc ?_ _)); refine blk_put (cs := #[.int .i64 t449, .int .i64 0, .int .i64 0, .int .i64 0, .int .i64 0, .int .i64 0]) ?_ 1 _ rfl; (with_reducible repeat (first | refine blk_drewN ?_ _ | refine blk_drew ?_ | refine blk_alloc ?_ _)); refine blk_put (cs := #[.int .i64 0, .int .i64 0, .int .i64 0, .int .i64 0, .int .i64 0, .int .i64 0]) ?_ 0 _ rfl; (with_reducible repeat (first | refine blk_drewN ?_ _ | refine blk_drew ?_ | refine blk_alloc ?_ _)); exact BK435.out) Tryd.underlying23 rfl (by kernel_rfl)) rfl ?_
   exact ⟨by first | rfl | (simp [errW_none, errW_some] <;> rfl) | (simp only [← hji28, ← hji33, ← hji43]; first | rfl | (simp [errW_none, errW_some] <;> rfl)) | (simp [*, errW_none, errW_some] <;> rfl), zq5⟩
end Go.Proofs.YtfmmpjfmdhdbmaaDoor.Q
