/- Texts of this claim, put together: walks of the program's functions, and plain facts. -/
import Derived.Test.YtfaihkhdbapjmaaZFnAffected
import Derived.Test.YtfaihkhdbapjmaaBFnAffected0
import Derived.Test.YtfaihkhdbapjmaaBFnAffected2
import Derived.Test.YtfaihkhdbapjmaaBFnAffected6
import Derived.Test.YtfaihkhdbapjmaaBFnAffected11
namespace Go.Proofs.Ytfaihkhdbapjmaa.Q
open Go.RowKit Go.Proofs.YtfaihkhdbapjmaaW.PrintWords Go.Proofs.YtfaihkhdbapjmaaW.PrintLast Go.Proofs.YtfaihkhdbapjmaaW.PrintMore
attribute [local go_sem] max2_int min2_int max_two min_two max_three min_three max_four min_four
set_option linter.unusedVariables false
set_option linter.unusedSimpArgs false
def spec_DrawAreaCoverage.f (k : Nat) (l0 : List Int) : Option (Int × Int × List Int × Int × Int × Int × List Int × Int) := (spec_l1Cur_anyAreaMap.f k l0 0 0).bind fun bt470 => ((spec_l1Cur_area.f k l0 bt470.2.2.2.1 bt470.2.2.2.2 bt470.1 bt470.2.1 bt470.2.2.1).bind fun bt478 => ((spec_l1Cur_fieldOf.f k l0 bt478.2.1 bt478.2.2 bt470.1 bt470.2.1 bt470.2.2.1).bind fun bt481 => ((some (([0, 10, 20, 21, 9001, (-9001)] : List Int) : List Int)).bind fun y488 => ((spec_l1Cur_pick.f l0 bt481.2.2.2.1 bt481.2.2.2.2 24).bind fun bt491 => (if 0 ≤ (wrap64 (4 + (wrap64 (Int.tdiv bt491.1 11)))) then (if (wrap64 (4 + (wrap64 (Int.tdiv bt491.1 11)))) ≤ (y488.length : Int) then ((spec_l1Cur_among.f l0 bt491.2.1 bt491.2.2 (y488.take ((wrap64 (4 + (wrap64 (Int.tdiv bt491.1 11)))) : Int).toNat)).bind fun bt498 => (some (bt470.1, bt470.2.1, bt470.2.2.1, bt478.1, bt481.1, bt481.2.1, bt481.2.2.1, bt498.1))) else (none)) else (none))))))
def spec_DrawAreaCoverage.T4 : Bool × List (List Nat × List Nat) := (true, [([], []), ([], []), ([], []), ([], []), ([2, 3], [2, 3]), ([], []), ([], []), ([], []), ([7, 4], [7]), ([8], [8]), ([9], [9]), ([6, 10], [6, 10]), ([5, 11, 8], [5, 11]), ([0, 12, 0], [0]), ([1, 13, 0, 1, 13], [1]), ([4, 14, 0, 1, 2, 3, 4, 13, 14], [4]), ([12, 15, 0, 1, 2, 3, 4, 5, 6, 7, 8, 9, 10, 11, 12, 13, 14, 15], [12])])
def spec_DrawAreaCoverage.B4 : List Nat := [0, 0, 0, 0, 12, 0, 0, 0, 156, 412, 924, 2012, 4092, 8189, 16383, 32767, 65535]
theorem spec_DrawAreaCoverage.tab4 : rtab .any (opsOf Try.f15 4) = spec_DrawAreaCoverage.T4 := by kernel_rfl
theorem spec_DrawAreaCoverage.bits4 : waitsOk spec_DrawAreaCoverage.T4.2 spec_DrawAreaCoverage.B4 = true := by kernel_rfl
set_option maxHeartbeats 8000000 in
set_option maxRecDepth 100000 in
theorem spec_DrawAreaCoverage.calls (k : Nat) (A0 : Option Addr) (c0 : Nat) (l0 : List Int) (r1 : Int) (r2 : Int) (r3 : List Int) (r4 : Int) (r5 : Int) (r6 : Int) (r7 : List Int) (r8 : Int) (w : World) (hr0 : Kd.C (Kd.int .u8) w A0 l0.length l0) (hc0 : l0.length ≤ c0) (h : spec_DrawAreaCoverage.f k l0 = some (r1, r2, r3, r4, r5, r6, r7, r8)) :
  Calls Try.prog 15 #[.slice A0 l0.length c0] w fun e w' => ∃ v2_ v6_ : Value, e = .returned (.tuple #[.agg #[.int .i64 r1, .int .i64 r2, v2_], .int .i64 r4, .agg #[.int .i64 r5, .int .i64 r6, v6_], .int .i64 r8]) ∧ Kd.R (Kd.int .i64) 3 w' w.heap.size (fun k_ => some k_ ≠ (v6_ : Value).ownBlock) v2_ r3 ∧ Kd.Q (Kd.int .i64) 3 w' w.heap.size (fun k_ => some k_ ≠ (v2_ : Value).ownBlock) v6_ r7 ∧ Below w.heap.size w w' := by
 have hu26 := Try.underlying26
 have hu27 := Try.underlying27
 have hu46 := Try.underlying46
 have HR0 := zm hr0
 have HC0 := zm hc0
 clear hr0 hc0
 have HB := zm (Below.refl w.heap.size w)
 have H : ((spec_l1Cur_anyAreaMap.f k l0 0 0).bind fun bt470 => ((spec_l1Cur_area.f k l0 bt470.2.2.2.1 bt470.2.2.2.2 bt470.1 bt470.2.1 bt470.2.2.1).bind fun bt478 => ((spec_l1Cur_fieldOf.f k l0 bt478.2.1 bt478.2.2 bt470.1 bt470.2.1 bt470.2.2.1).bind fun bt481 => ((some (([0, 10, 20, 21, 9001, (-9001)] : List Int) : List Int)).bind fun y488 => ((spec_l1Cur_pick.f l0 bt481.2.2.2.1 bt481.2.2.2.2 24).bind fun bt491 => (if 0 ≤ (wrap64 (4 + (wrap64 (Int.tdiv bt491.1 11)))) then (if (wrap64 (4 + (wrap64 (Int.tdiv bt491.1 11)))) ≤ (y488.length : Int) then ((spec_l1Cur_among.f l0 bt491.2.1 bt491.2.2 (y488.take ((wrap64 (4 + (wrap64 (Int.tdiv bt491.1 11)))) : Int).toNat)).bind fun bt498 => (some (bt470.1, bt470.2.1, bt470.2.2.1, bt478.1, bt481.1, bt481.2.1, bt481.2.2.1, bt498.1))) else (none)) else (none))))))) = some (r1, r2, r3, r4, r5, r6, r7, r8) := h
 clear h
 obtain ⟨⟨t470, t471, t472, t475, t476⟩, A20, H⟩ := zob H
 replace H : ((spec_l1Cur_area.f k l0 t475 t476 t470 t471 t472).bind fun bt478 => ((spec_l1Cur_fieldOf.f k l0 bt478.2.1 bt478.2.2 t470 t471 t472).bind fun bt481 => ((some (([0, 10, 20, 21, 9001, (-9001)] : List Int) : List Int)).bind fun y488 => ((spec_l1Cur_pick.f l0 bt481.2.2.2.1 bt481.2.2.2.2 24).bind fun bt491 => (if 0 ≤ (wrap64 (4 + (wrap64 (Int.tdiv bt491.1 11)))) then (if (wrap64 (4 + (wrap64 (Int.tdiv bt491.1 11)))) ≤ (y488.length : Int) then ((spec_l1Cur_among.f l0 bt491.2.1 bt491.2.2 (y488.take ((wrap64 (4 + (wrap64 (Int.tdiv bt491.1 11)))) : Int).toNat)).bind fun bt498 => (some (t470, t471, t472, bt478.1, bt481.1, bt481.2.1, bt481.2.2.1, bt498.1))) else (none)) else (none)))))) = some (r1, r2, r3, r4, r5, r6, r7, r8) := H
 have A2 := zm A20
 clear A20
 obtain ⟨⟨t478, t479, t480⟩, A30, H⟩ := zob H
 replace H : ((spec_l1Cur_fieldOf.f k l0 t479 t480 t470 t471 t472).bind fun bt481 => ((some (([0, 10, 20, 21, 9001, (-9001)] : List Int) : List Int)).bind fun y488 => ((spec_l1Cur_pick.f l0 bt481.2.2.2.1 bt481.2.2.2.2 24).bind fun bt491 => (if 0 ≤ (wrap64 (4 + (wrap64 (Int.tdiv bt491.1 11)))) then (if (wrap64 (4 + (wrap64 (Int.tdiv bt491.1 11)))) ≤ (y488.length : Int) then ((spec_l1Cur_among.f l0 bt491.2.1 bt491.2.2 (y488.take ((wrap64 (4 + (wrap64 (Int.tdiv bt491.1 11)))) : Int).toNat)).bind fun bt498 => (some (t470, t471, t472, t478, bt481.1, bt481.2.1, bt481.2.2.1, bt498.1))) else (none)) else (none))))) = some (r1, r2, r3, r4, r5, r6, r7, r8) := H
 have A3 := zm A30
 clear A30
 obtain ⟨⟨t481, t482, t483, t486, t487⟩, A40, H⟩ := zob H
 replace H : ((some (([0, 10, 20, 21, 9001, (-9001)] : List Int) : List Int)).bind fun y488 => ((spec_l1Cur_pick.f l0 t486 t487 24).bind fun bt491 => (if 0 ≤ (wrap64 (4 + (wrap64 (Int.tdiv bt491.1 11)))) then (if (wrap64 (4 + (wrap64 (Int.tdiv bt491.1 11)))) ≤ (y488.length : Int) then ((spec_l1Cur_among.f l0 bt491.2.1 bt491.2.2 (y488.take ((wrap64 (4 + (wrap64 (Int.tdiv bt491.1 11)))) : Int).toNat)).bind fun bt498 => (some (t470, t471, t472, t478, t481, t482, t483, bt498.1))) else (none)) else (none)))) = some (r1, r2, r3, r4, r5, r6, r7, r8) := H
 have A4 := zm A40
 clear A40
 obtain ⟨y488, hy488⟩ : ∃ y_ : List Int, y_ = (([0, 10, 20, 21, 9001, (-9001)] : List Int)) := ⟨_, rfl⟩
 replace H : ((spec_l1Cur_pick.f l0 t486 t487 24).bind fun bt491 => (if 0 ≤ (wrap64 (4 + (wrap64 (Int.tdiv bt491.1 11)))) then (if (wrap64 (4 + (wrap64 (Int.tdiv bt491.1 11)))) ≤ (y488.length : Int) then ((spec_l1Cur_among.f l0 bt491.2.1 bt491.2.2 (y488.take ((wrap64 (4 + (wrap64 (Int.tdiv bt491.1 11)))) : Int).toNat)).bind fun bt498 => (some (t470, t471, t472, t478, t481, t482, t483, bt498.1))) else (none)) else (none))) = some (r1, r2, r3, r4, r5, r6, r7, r8) := zqH hy488 H
 have Ny488 := zm hy488
 clear hy488
 obtain ⟨⟨t491, t492, t493⟩, A50, H⟩ := zob H
 replace H : (if 0 ≤ (wrap64 (4 + (wrap64 (Int.tdiv t491 11)))) then (if (wrap64 (4 + (wrap64 (Int.tdiv t491 11)))) ≤ (y488.length : Int) then ((spec_l1Cur_among.f l0 t492 t493 (y488.take ((wrap64 (4 + (wrap64 (Int.tdiv t491 11)))) : Int).toNat)).bind fun bt498 => (some (t470, t471, t472, t478, t481, t482, t483, bt498.1))) else (none)) else (none)) = some (r1, r2, r3, r4, r5, r6, r7, r8) := H
 have A5 := zm A50
 clear A50
 obtain ⟨ji6, hji6⟩ : ∃ j_ : Int, (wrap64 (4 + (wrap64 (Int.tdiv t491 11)))) = j_ := ⟨_, rfl⟩
 replace H : (if 0 ≤ (ji6) then (if (ji6) ≤ (y488.length : Int) then ((spec_l1Cur_among.f l0 t492 t493 (y488.take ((ji6) : Int).toNat)).bind fun bt498 => (some (t470, t471, t472, t478, t481, t482, t483, bt498.1))) else (none)) else (none)) = some (r1, r2, r3, r4, r5, r6, r7, r8) := by first | (rw [hji6] at H; exact H) | (simp only [hji6] at H ⊢; exact H)
 (try rw [hji6] at A2)
 (try rw [hji6] at A3)
 (try rw [hji6] at A4)
 (try rw [hji6] at A5)
 have hji6w : (IntKind.i64.wrap (4 + (wrap64 (Int.tdiv t491 11)))) = ji6 := (i64_w _).trans hji6
 by_cases c7 : 0 ≤ (ji6)
 case neg =>
  rw [if_neg c7] at H
  exact absurd H (by simp)
 rw [if_pos c7] at H
 have c7b0 := eq_true c7
 have c7b1 : decide (0 ≤ (ji6)) = true := decide_eq_true c7
 clear c7
 by_cases c8 : (ji6) ≤ (y488.length : Int)
 case neg =>
  rw [if_neg c8] at H
  exact absurd H (by simp)
 rw [if_pos c8] at H
 have c8b0 := eq_true c8
 have c8b1 : decide ((ji6) ≤ (y488.length : Int)) = true := decide_eq_true c8
 clear c8
 obtain ⟨y494, hy494⟩ : ∃ y_ : List Int, y_ = (y488.take ((ji6) : Int).toNat) := ⟨_, rfl⟩
 replace H : ((spec_l1Cur_among.f l0 t492 t493 y494).bind fun bt498 => (some (t470, t471, t472, t478, t481, t482, t483, bt498.1))) = some (r1, r2, r3, r4, r5, r6, r7, r8) := zqH hy494 H
 have Ny494 := zm hy494
 clear hy494
 obtain ⟨⟨t498, t499, t500⟩, A90, H⟩ := zob H
 replace H : (some (t470, t471, t472, t478, t481, t482, t483, t498)) = some (r1, r2, r3, r4, r5, r6, r7, r8) := H
 have A9 := zm A90
 clear A90
 simp only [Option.some.injEq, Prod.mk.injEq] at H
 obtain ⟨rfl, rfl, rfl, rfl, rfl, rfl, rfl, rfl⟩ := H
 go_enter Try.func15, Try.ntmps15
 try go_wp2_with (first | ((with_reducible refine gate_dst (N := 2) rfl ?_); refine box_event ?hg (N := 2) ?hd (cs := #[.int .i64 0, .int .i64 0, .slice none 0 0]) (t := 26) ?hr ?_; (case hd => rfl); (case hg => rfl); (case hr => exact zqS); intro gb467 hg w10 hbox hb; have BK467 := zm (hbox); have GW467 := zm ((by rw [hg]; exact (zyi zq1) : w.heap.size ≤ gb467)); replace HB := zm (zyh zq1 hb); have GE467 := GW467; clear hb hbox hg) | ((with_reducible refine gate_dst (N := 4) rfl ?_); refine box_event ?hg (N := 4) ?hd (cs := #[.int .i64 0, .int .i64 0, .slice none 0 0]) (t := 27) ?hr ?_; (case hd => rfl); (case hg => rfl); (case hr => exact zqS); intro gb468 hg w11 hbox hb; have BK468 := zm (hbox); have GW468 := zm ((by rw [hg]; exact (zyi zq105) : w.heap.size ≤ gb468)); replace HB := zm (zyh zq105 hb); have GE468 := GW468; have NB467_468 := zm ((by rw [hg]; exact Nat.ne_of_lt (blk_lt (g := gb467) (o := zcA) (zqK BK467.out)) : gb467 ≠ gb468)); have NB468_467 := zm ((by rw [hg]; exact Nat.ne_of_gt (blk_lt (g := gb467) (o := zcA) (zqK BK467.out)) : gb468 ≠ gb467)); replace BK467 := zm (zyb (g := gb467) (o := zcA) (zqK BK467.out) hb); clear hb hbox hg) | ((with_reducible refine gate_dst (N := 11) rfl ?_); refine box_event ?hg (N := 11) ?hd (cs := #[.slice A0 l0.length c0, .int .i64 0, .int .u64 0]) (t := 46) ?hr ?_; (case hd => rfl); (case hg => rfl); (case hr => exact zqS); intro gb469 hg w12 hbox hb; have HI469 := zm ((show IsS46 w w12 gb469 l0 0 0 from ⟨_, _, hbox, (by rw [hg]; exact (zyi zq85) : w.heap.size ≤ gb469), HR0.out⟩)); have GW469 := zm ((by rw [hg]; exact (zyi zq85) : w.heap.size ≤ gb469)); replace HB := zm (zyh zq85 hb); have GE469 := GW469; have NB467_469 := zm ((by rw [hg]; exact Nat.ne_of_lt (blk_lt (g := gb467) (o := zcA) (zqK BK467.out)) : gb467 ≠ gb469)); have NB469_467 := zm ((by rw [hg]; exact Nat.ne_of_gt (blk_lt (g := gb467) (o := zcA) (zqK BK467.out)) : gb469 ≠ gb467)); replace BK467 := zm (zyb (g := gb467) (o := zcA) (zqK BK467.out) hb); have NB468_469 := zm ((by rw [hg]; exact Nat.ne_of_lt (blk_lt (g := gb468) (o := zcB) (zqK BK468.out)) : gb468 ≠ gb469)); have NB469_468 := zm ((by rw [hg]; exact Nat.ne_of_gt (blk_lt (g := gb468) (o := zcB) (zqK BK468.out)) : gb469 ≠ gb468)); replace BK468 := zm (zyb (g := gb468) (o := zcB) (zqK BK468.out) hb); clear hb hbox hg) | ((with_reducible refine zyg (f := 17) rfl ?_); refine goesL_ (some 13) rfl rfl Try.func17 (by kernel_rfl) rfl #[.pointer (some ⟨gb469, 0, none⟩)] rfl zq0 ?_; (with_reducible refine (spec_l1Cur_anyAreaMap.calls k gb469 l0 0 0 t470 t471 t472 t475 t476 w _ ?side1 ?side2 A2.out).mono ?_); (case side1 => repeat (first | (with_reducible first | exact HI469.out | apply zv1 | apply zv2 | apply zv3 | apply zv4 | apply zv5 | refine zv6 ?_ NB469_467.out _ | refine zv6 ?_ NB469_468.out _) | exact HI469.out)); (case side2 => repeat (first | (with_reducible first | exact HB.out | apply zya | apply zyp | apply zyr | refine zys ?_ (IsS46.ge HI469.out) | refine zys ?_ GE467.out | refine zys ?_ GE468.out) | exact HB.out)); rintro e w13 ⟨v473, rfl, ho0, hi, hb, hk⟩; refine ⟨_, rfl, ?_⟩; replace BK467 := zm (KeepBut.blk hk (g' := gb467) (o := zcA) (zqK BK467.out) NB467_469.out (by simp)); replace BK468 := zm (KeepBut.blk hk (g' := gb468) (o := zcB) (zqK BK468.out) NB468_469.out (by simp)); have HO474 := zm (Kd.R_lower ho0 (zyi zq73)); replace HB := zm (hb); replace HI469 := zm (hi); (try clear hb); (try clear hb2); (try clear hk); (try clear hi); (try clear ho0)) | ((with_reducible refine gate_dst (N := 7) rfl ?_); refine box_event ?hg (N := 7) ?hd (cs := #[.int .i64 0, .int .i64 0, .slice none 0 0]) (t := 26) ?hr ?_; (case hd => rfl); (case hg => rfl); (case hr => exact zqS); intro gb477 hg w14 hbox hb; replace HO474 := zm (Kd.R_below (zqR HO474.out) hb); have BK477 := zm (hbox); have GW477 := zm ((by rw [hg]; exact (zyi zq73) : w.heap.size ≤ gb477)); replace HB := zm (zyh zq73 hb); have GE477 := GW477; have NB467_477 := zm ((by rw [hg]; exact Nat.ne_of_lt (blk_lt (g := gb467) (o := zcA) (zqK BK467.out)) : gb467 ≠ gb477)); have NB477_467 := zm ((by rw [hg]; exact Nat.ne_of_gt (blk_lt (g := gb467) (o := zcA) (zqK BK467.out)) : gb477 ≠ gb467)); replace BK467 := zm (zyb (g := gb467) (o := zcA) (zqK BK467.out) hb); have NB468_477 := zm ((by rw [hg]; exact Nat.ne_of_lt (blk_lt (g := gb468) (o := zcB) (zqK BK468.out)) : gb468 ≠ gb477)); have NB477_468 := zm ((by rw [hg]; exact Nat.ne_of_gt (blk_lt (g := gb468) (o := zcB) (zqK BK468.out)) : gb477 ≠ gb468)); replace BK468 := zm (zyb (g := gb468) (o := zcB) (zqK BK468.out) hb); have NB469_477 := zm ((by rw [hg]; exact Nat.ne_of_lt (IsS46.lt (show IsS46 w _ gb469 l0 t475 t476 from by repeat (first | (with_reducible first | exact HI469.out | apply zv1 | apply zv2 | apply zv3 | apply zv4 | apply zv5 | refine zv6 ?_ NB469_467.out _ | refine zv6 ?_ NB469_468.out _) | exact HI469.out))) : gb469 ≠ gb477)); have NB477_469 := zm ((by rw [hg]; exact Nat.ne_of_gt (IsS46.lt (show IsS46 w _ gb469 l0 t475 t476 from by repeat (first | (with_reducible first | exact HI469.out | apply zv1 | apply zv2 | apply zv3 | apply zv4 | apply zv5 | refine zv6 ?_ NB469_467.out _ | refine zv6 ?_ NB469_468.out _) | exact HI469.out))) : gb477 ≠ gb469)); replace HI469 := zm (IsS46.below (by repeat (first | (with_reducible first | exact HI469.out | apply zv1 | apply zv2 | apply zv3 | apply zv4 | apply zv5 | refine zv6 ?_ NB469_467.out _ | refine zv6 ?_ NB469_468.out _) | exact HI469.out)) hb); clear hb hbox hg; have hnb15 := NB477_467.out; have hnc15 := NB467_477.out; have hnb16 := NB477_468.out; have hnc16 := NB468_477.out; have hnb17 := NB477_469.out; have hnc17 := NB469_477.out; have hcz18_0 := bz BK477.out 0 (.int .i64 0); have hcz18_1 := bz BK477.out 1 (.int .i64 0); have hcz18_2 := bz BK477.out 2 (.slice none 0 0); have hfz18_0 := zyF BK477.out 0; have hfz18_1 := zyF BK477.out 1; have hfz18_2 := zyF BK477.out 2; obtain ⟨Ao19, co19, eo19⟩ := Kd.R_slice HO474.out; subst eo19) | ((with_reducible refine zyg (f := 37) rfl ?_); refine goesL_ (some 16) rfl rfl Try.func37 (by kernel_rfl) rfl #[.pointer (some ⟨gb469, 0, none⟩), .agg #[.int .i64 t470, .int .i64 t471, .slice Ao19 t472.length co19]] rfl zq0 ?_; (with_reducible refine (spec_l1Cur_area.calls k gb469 l0 t475 t476 t470 t471 _ _ t472 t478 t479 t480 w _ ?side1 ?side2 ?side3 ?side4 ?side5 A3.out).mono ?_); (case side1 => repeat (first | (with_reducible first | exact HI469.out | apply zv1 | apply zv2 | apply zv3 | apply zv4 | apply zv5 | refine zv6 ?_ NB469_467.out _ | refine zv6 ?_ NB469_468.out _ | refine zv6 ?_ NB469_477.out _) | exact HI469.out)); (case side2 => repeat (first | (with_reducible first | exact HB.out | apply zya | apply zyp | apply zyr | refine zys ?_ (IsS46.ge HI469.out) | refine zys ?_ GE467.out | refine zys ?_ GE468.out | refine zys ?_ GE477.out) | exact HB.out)); (case side3 => refine (Kd.R_reads' (e := 3) (base := w.heap.size) (ok := fun k_ => True) (n := t472.length) (c := co19) ?_).2.2; exact zq96); (case side4 => exact (Kd.R_reads' HO474.out).2.1); (case side5 => intro ad e_ _ q_; have o_ := HO474.out; have ne_ := IsS46.own_ne (e := 3) HI469.out o_ (by decide); rw [e_] at ne_; exact ne_ (by simp [Value.ownBlock, q_])); rintro e w20 ⟨rfl, hi, hb, hk⟩; refine ⟨_, rfl, ?_⟩; replace BK467 := zm (KeepBut.blk hk (g' := gb467) (o := zcA) (by (with_reducible repeat (first | apply zN | apply zD | apply zL)); refine zye ?_ NB467_477.out _; (with_reducible repeat (first | apply zN | apply zD | apply zL)); refine zye ?_ NB467_477.out _; (with_reducible repeat (first | apply zN | apply zD | apply zL)); refine zye ?_ NB467_477.out _; (with_reducible repeat (first | apply zN | apply zD | apply zL)); exact BK467.out) NB467_469.out (by simp)); replace BK468 := zm (KeepBut.blk hk (g' := gb468) (o := zcB) (by (with_reducible repeat (first | apply zN | apply zD | apply zL)); refine zye ?_ NB468_477.out _; (with_reducible repeat (first | apply zN | apply zD | apply zL)); refine zye ?_ NB468_477.out _; (with_reducible repeat (first | apply zN | apply zD | apply zL)); refine zye ?_ NB468_477.out _; (with_reducible repeat (first | apply zN | apply zD | apply zL)); exact BK468.out) NB468_469.out (by simp)); replace HO474 := zm (Kd.R_mono (Kd.R_keep (IsS46.apart (show IsS46 w _ gb469 l0 t475 t476 from by repeat (first | (with_reducible first | exact HI469.out | apply zv1 | apply zv2 | apply zv3 | apply zv4 | apply zv5 | refine zv6 ?_ NB469_467.out _ | refine zv6 ?_ NB469_468.out _ | refine zv6 ?_ NB469_477.out _) | exact HI469.out)) zq96 (by decide)) hk (fun _ h => h.2)) (fun _ h => h.1)); replace BK477 := zm (KeepBut.blk hk (g' := gb477) (o := .cells #[.int .i64 t470, .int .i64 t471, .slice Ao19 t472.length co19] 26 (0, 0)) (by (with_reducible repeat (first | apply zN | apply zD | apply zL)); refine blk_put (cs := #[.int .i64 t470, .int .i64 t471, .slice none 0 0]) ?_ 2 _ rfl; (with_reducible repeat (first | apply zN | apply zD | apply zL)); refine blk_put (cs := #[.int .i64 t470, .int .i64 0, .slice none 0 0]) ?_ 1 _ rfl; (with_reducible repeat (first | apply zN | apply zD | apply zL)); refine blk_put (cs := #[.int .i64 0, .int .i64 0, .slice none 0 0]) ?_ 0 _ rfl; (with_reducible repeat (first | apply zN | apply zD | apply zL)); exact BK477.out) NB477_469.out (by simp)); replace HB := zm (hb); replace HI469 := zm (hi); (try clear hb); (try clear hb2); (try clear hk); (try clear hi)))
 have n0_ := zm (Kd.R_drew HO474.out)
 have n1_ := zm (zD BK467.out)
 have n2_ := zm (zD BK468.out)
 have n3_ := zm (zD BK477.out)
 have n4_ := zm (zv3 HI469.out)
 have n5_ := zm (zyr HB.out)
 clear HO474
 clear BK467
 clear BK468
 clear BK477
 clear HI469
 clear HB
 have HO474 := n0_
 have BK467 := n1_
 have BK468 := n2_
 have BK477 := n3_
 have HI469 := n4_
 have HB := n5_
 clear n0_ n1_ n2_ n3_ n4_ n5_
 refine start_ (n := 17) (S := fun w' => w'.cell? ⟨gb477, 0, none⟩ = some (.int .i64 t470) ∧ w'.cell? ⟨gb477, 1, none⟩ = some (.int .i64 t471) ∧ w'.cell? ⟨gb477, 2, none⟩ = some (.slice Ao19 t472.length co19)) (ds := []) #[zf, zf, zf, zf, zf, zf, zf, zf, zf, zf, zf, zf, zf, zf, zf, zf, zf] (by kernel_rfl) rfl rfl ⟨(zyk BK477.out 0).trans rfl, (zyk BK477.out 1).trans rfl, (zyk BK477.out 2).trans rfl⟩ (fun hHeld => ?_); refine with_tabW spec_DrawAreaCoverage.tab4 spec_DrawAreaCoverage.bits4 (fun HT_ HW_ => ?_)
 generalize w20.drew = w21 at HO474 BK467 BK468 BK477 HI469 HB hHeld ⊢
 refine zP 1 (some 18) #[zf, zt, zf, zf, zf, zf, zf, zf, zf, zf, zf, zf, zf, zf, zf, zf, zf] ?_ rfl rfl HT_ (Or.inl ⟨by rfl, ?_⟩) ?_ ?_ ?_
 rotate_left; · exact zqB
 rotate_left; · exact zqA
 refine zP 2 (some 19) #[zf, zt, zt, zf, zf, zf, zf, zf, zf, zf, zf, zf, zf, zf, zf, zf, zf] ?_ rfl rfl HT_ (Or.inl ⟨by rfl, ?_⟩) ?_ ?_ ?_
 rotate_left; · exact zqB
 rotate_left; · exact zqA
 refine zP 5 (some 22) #[zf, zt, zt, zf, zf, zt, zf, zf, zf, zf, zf, zf, zf, zf, zf, zf, zf] ?_ rfl rfl HT_ (Or.inl ⟨by rfl, ?_⟩) ?_ ?_ ?_
 rotate_left; · exact zqB
 rotate_left; · exact zqA
 refine zP 7 (some 24) #[zf, zt, zt, zf, zf, zt, zf, zt, zf, zf, zf, zf, zf, zf, zf, zf, zf] ?_ rfl rfl HT_ (Or.inl ⟨by rfl, ?_⟩) ?_ ?_ ?_
 rotate_left; · exact zqB
 rotate_left; · exact zqA
 refine zT 0 (some 17) #[zt, zt, zt, zf, zf, zt, zf, zt, zf, zf, zf, zf, zf, zf, zf, zf, zf] ?_ rfl rfl HT_ HW_ (Or.inl ⟨by rfl, ?_⟩) hHeld ?_ ?_ ?_
 rotate_left
 ·
  rintro w' ⟨s0, s1, s2⟩
  go_simp
  with_reducible rfl
 rotate_left; · exact zqA
 refine zT 3 (some 20) #[zt, zt, zt, zt, zf, zt, zf, zt, zf, zf, zf, zf, zf, zf, zf, zf, zf] ?_ rfl rfl HT_ HW_ (Or.inl ⟨by rfl, ?_⟩) hHeld ?_ ?_ ?_
 rotate_left
 ·
  rintro w' ⟨s0, s1, s2⟩
  go_simp
  with_reducible rfl
 rotate_left; · exact zqA
 refine join_ (σ := Value × Value) 6 #[zt, zt, zt, zt, zt, zt, zt, zt, zt, zt, zt, zf, zf, zf, zf, zf, zf] (fun s_ => [(21, .agg #[.int .i64 t481, .int .i64 t482, s_.1]), (23, s_.2), (25, .int .i64 t491), (26, .int .i64 (wrap64 (Int.tdiv t491 11))), (27, .int .i64 ji6)]) (fun s_ w' => (w'.cell? ⟨gb477, 0, none⟩ = some (.int .i64 t470) ∧ w'.cell? ⟨gb477, 1, none⟩ = some (.int .i64 t471) ∧ w'.cell? ⟨gb477, 2, none⟩ = some (.slice Ao19 t472.length co19)) ∧ (Kd.R (Kd.int .i64) 3 w' w.heap.size (fun k_ => some k_ ≠ (s_.1 : Value).ownBlock ∧ some k_ ≠ (s_.2 : Value).ownBlock) (.slice Ao19 t472.length co19) t472) ∧ (Kd.Q (Kd.int .i64) 3 w' w.heap.size (fun k_ => some k_ ≠ (.slice Ao19 t472.length co19 : Value).ownBlock ∧ some k_ ≠ (s_.2 : Value).ownBlock) s_.1 t483) ∧ (Kd.R (Kd.int .i64) 3 w' w.heap.size (fun k_ => some k_ ≠ (.slice Ao19 t472.length co19 : Value).ownBlock ∧ some k_ ≠ (s_.1 : Value).ownBlock) s_.2 y488) ∧ (w'.heap[gb467]? = some (.cells #[.int .i64 0, .int .i64 0, .slice none 0 0] 26 (0, 0))) ∧ (w'.heap[gb468]? = some (.cells #[.int .i64 0, .int .i64 0, .slice none 0 0] 27 (0, 0))) ∧ (w'.heap[gb477]? = some (.cells #[.int .i64 t470, .int .i64 t471, .slice Ao19 t472.length co19] 26 (0, 0))) ∧ (IsS46 w w' gb469 l0 t492 t493) ∧ (Below w.heap.size w w')) ?_ ?_
 rotate_left
 ·
  intro hCont
  refine two_ (i := 4) (j := 6) (Ni := some 21) (Nj := some 23) #[zt, zt, zt, zt, zt, zt, zf, zt, zf, zf, zf, zf, zf, zf, zf, zf, zf] #[zt, zt, zt, zt, zf, zt, zt, zt, zf, zf, zf, zf, zf, zf, zf, zf, zf] rfl rfl rfl rfl (two_of HT_.out (by kernel_rfl)) (by decide) (by decide) (fun K hK => ?_) (fun K hK => ?_)
  ·
   skip
   refine goes_ Try.func18 (by kernel_rfl) rfl #[.pointer (some ⟨gb469, 0, none⟩), .agg #[.int .i64 t470, .int .i64 t471, .slice Ao19 t472.length co19]] (by rfl) rfl rfl zq0 ?_
   with_reducible refine (spec_l1Cur_fieldOf.calls k gb469 l0 t479 t480 t470 t471 _ _ t472 t481 t482 t483 t486 t487 w _ ?side1 ?side2 ?side3 ?side4 ?side5 A4.out).mono ?_
   (case side1 => repeat (first | (with_reducible first | exact HI469.out | apply zv1 | apply zv2 | apply zv3 | apply zv4 | apply zv5 | refine zv6 ?_ NB469_467.out _ | refine zv6 ?_ NB469_468.out _ | refine zv6 ?_ NB469_477.out _) | exact HI469.out))
   (case side2 => repeat (first | (with_reducible first | exact HB.out | apply zya | apply zyp | apply zyr | refine zys ?_ (IsS46.ge HI469.out) | refine zys ?_ GE467.out | refine zys ?_ GE468.out | refine zys ?_ GE477.out) | exact HB.out))
   (case side3 => exact zqC (Kd.R_reads' HO474.out).2.2)
   (case side4 => exact (Kd.R_reads' HO474.out).2.1)
   (case side5 => intro ad e_ _ q_; have o_ := HO474.out; have ne_ := IsS46.own_ne (e := 3) HI469.out o_ (by decide); rw [e_] at ne_; exact ne_ (by simp [Value.ownBlock, q_]))
   rintro e w22 ⟨v484, rfl, ho0, hi, hb, hk⟩
   refine ⟨_, rfl, ?_⟩
   have n0_ := zm (KeepBut.blk hk (g' := gb467) (o := zcA) (zqK BK467.out) NB467_469.out (by simp))
   have n1_ := zm (KeepBut.blk hk (g' := gb468) (o := zcB) (zqK BK468.out) NB468_469.out (by simp))
   have n2_ := zm (Kd.R_mono (Kd.R_told (Kd.R_oldK (IsS46.apart (show IsS46 w _ gb469 l0 t479 t480 from by repeat (first | (with_reducible first | exact HI469.out | apply zv1 | apply zv2 | apply zv3 | apply zv4 | apply zv5 | refine zv6 ?_ NB469_467.out _ | refine zv6 ?_ NB469_468.out _ | refine zv6 ?_ NB469_477.out _) | exact HI469.out)) (zqR HO474.out) (by decide)) hk) (Kd.Q_base ho0)) (fun _ h_ => h_.1))
   have n3_ := zm (KeepBut.blk hk (g' := gb477) (o := .cells #[.int .i64 t470, .int .i64 t471, .slice Ao19 t472.length co19] 26 (0, 0)) (zqK BK477.out) NB477_469.out (by simp))
   have n4_ := zm (Kd.Q_lower (Kd.Q_new' ho0 (Kd.R_lt (zqR HO474.out))) (zyi zq21))
   have n5_ := zm (hb)
   have n6_ := zm (hi)
   clear BK467
   clear BK468
   clear HO474
   clear BK477
   clear HB
   clear HI469
   have BK467 := n0_
   have BK468 := n1_
   have HO474 := n2_
   have BK477 := n3_
   have HO485 := n4_
   have HB := n5_
   have HI469 := n6_
   clear n0_ n1_ n2_ n3_ n4_ n5_ n6_
   (try clear hb)
   (try clear hb2)
   (try clear hk)
   (try clear hi)
   (try clear ho0)
   refine hK.out _ _ ⟨(zyk BK477.out 0).trans rfl, (zyk BK477.out 1).trans rfl, (zyk BK477.out 2).trans rfl⟩ (fun hHeld => ?_)
   clear hK K
   refine norm_ (a' := ?_) ?_ ?_
   rotate_left
   ·
    show Act.put _ (some 21) _ = _
    simp only [Act.put, List.setIfInBounds_toArray, List.set_cons_zero, List.set_cons_succ, i64_w, i32_w]
    rfl
   refine two_ (i := 6) (j := 8) (Ni := some 23) (Nj := some 25) #[zt, zt, zt, zt, zt, zt, zt, zt, zf, zf, zf, zf, zf, zf, zf, zf, zf] #[zt, zt, zt, zt, zt, zt, zf, zt, zt, zf, zf, zf, zf, zf, zf, zf, zf] rfl rfl rfl rfl (two_of HT_.out (by kernel_rfl)) (by decide) (by decide) (fun K hK => ?_) (fun K hK => ?_)
   ·
    skip
    refine Kd.R_lit_step (Kd.int .i64) _ 3 ?hg (N := 23) ?hd (xs := ([0, 10, 20, 21, 9001, (-9001)] : List Int)) (inner := [.int .i64 0, .int .i64 10, .int .i64 20, .int .i64 21, .int .i64 9001, .int .i64 (-9001)]) (ok := fun _ => True) (okp := fun _ => True) ?hr ?hp (fun _ hk => hk) trivial (Below.refl _ _) (Nat.le_refl _) (by simp) ?_; (case hd => rfl); (case hg => rfl); (case hr => exact zqS); (case hp => exact (Reps.one (show Kd.M (Kd.int .i64) _ _ _ 0 [.int .i64 0] from rfl) (Reps.one (show Kd.M (Kd.int .i64) _ _ _ 10 [.int .i64 10] from rfl) (Reps.one (show Kd.M (Kd.int .i64) _ _ _ 20 [.int .i64 20] from rfl) (Reps.one (show Kd.M (Kd.int .i64) _ _ _ 21 [.int .i64 21] from rfl) (Reps.one (show Kd.M (Kd.int .i64) _ _ _ 9001 [.int .i64 9001] from rfl) (Reps.one (show Kd.M (Kd.int .i64) _ _ _ (-9001) [.int .i64 (-9001)] from rfl) (Reps.none _ _))))))))
    intro v489 w23 ho24 hb hg_ hnew_
    clear hg_ hnew_
    (first | rw [← Ny488.out] at ho24 | (simp only [Int.reduceToNat] at ho24; rw [← Ny488.out] at ho24))
    have n0_ := zm (Kd.R_elder' (zqR HO474.out) (Kd.R_base ho24) hb)
    have n1_ := zm (Kd.Q_elder' zq65 (Kd.R_base ho24) hb)
    have n2_ := zm (Kd.R_lower (Kd.R_new' (Kd.R_new' ho24 (Kd.R_lt (zqR HO474.out))) (Kd.Q_lt zq65)) (zyi zq21))
    have n3_ := zm (zyb (g := gb467) (o := zcA) (zqK BK467.out) hb)
    have n4_ := zm (zyb (g := gb468) (o := zcB) (zqK BK468.out) hb)
    have n5_ := zm (IsS46.below zq43 hb)
    have n6_ := zm (zyb (g := gb477) (o := .cells #[.int .i64 t470, .int .i64 t471, .slice Ao19 t472.length co19] 26 (0, 0)) (zqK BK477.out) hb)
    have n7_ := zm (zyh zq21 hb)
    clear HO474
    clear HO485
    clear BK467
    clear BK468
    clear HI469
    clear BK477
    clear HB
    have HO474 := n0_
    have HO485 := n1_
    have HO490 := n2_
    have BK467 := n3_
    have BK468 := n4_
    have HI469 := n5_
    have BK477 := n6_
    have HB := n7_
    clear n0_ n1_ n2_ n3_ n4_ n5_ n6_ n7_
    clear hb ho24
    refine hK.out _ _ ⟨(zyk BK477.out 0).trans rfl, (zyk BK477.out 1).trans rfl, (zyk BK477.out 2).trans rfl⟩ (fun hHeld => ?_)
    clear hK K
    refine norm_ (a' := ?_) ?_ ?_
    rotate_left
    ·
     show Act.put _ (some 23) _ = _
     simp only [Act.put, List.setIfInBounds_toArray, List.set_cons_zero, List.set_cons_succ, i64_w, i32_w]
     rfl
    refine one_ (i := 8) (N := some 25) #[zt, zt, zt, zt, zt, zt, zt, zt, zt, zf, zf, zf, zf, zf, zf, zf, zf] rfl rfl (one_of HT_.out (by kernel_rfl)) (by decide) (fun K hK => ?_)
    refine goes_ Try.func20 (by kernel_rfl) rfl #[.pointer (some ⟨gb469, 0, none⟩), .int .i64 24] (by rfl) rfl rfl zq0 ?_
    with_reducible refine (spec_l1Cur_pick.calls gb469 l0 t486 t487 24 t491 t492 t493 w _ ?side1 ?side2 A5.out).mono ?_
    (case side1 => repeat (first | (with_reducible first | exact HI469.out | apply zv1 | apply zv2 | apply zv3 | apply zv4 | apply zv5 | refine zv6 ?_ NB469_467.out _ | refine zv6 ?_ NB469_468.out _ | refine zv6 ?_ NB469_477.out _) | exact HI469.out))
    (case side2 => repeat (first | (with_reducible first | exact HB.out | apply zya | apply zyp | apply zyr | refine zys ?_ (IsS46.ge HI469.out) | refine zys ?_ GE467.out | refine zys ?_ GE468.out | refine zys ?_ GE477.out) | exact HB.out))
    rintro e w25 ⟨rfl, hi, hb, hk⟩
    refine ⟨_, rfl, ?_⟩
    have n0_ := zm (KeepBut.blk hk (g' := gb467) (o := zcA) (zqK BK467.out) NB467_469.out (by simp))
    have n1_ := zm (KeepBut.blk hk (g' := gb468) (o := zcB) (zqK BK468.out) NB468_469.out (by simp))
    have n2_ := zm (Kd.R_mono (Kd.R_keep (IsS46.apart (show IsS46 w _ gb469 l0 t486 t487 from by repeat (first | (with_reducible first | exact HI469.out | apply zv1 | apply zv2 | apply zv3 | apply zv4 | apply zv5 | refine zv6 ?_ NB469_467.out _ | refine zv6 ?_ NB469_468.out _ | refine zv6 ?_ NB469_477.out _) | exact HI469.out)) (zqR HO474.out) (by decide)) hk (fun _ h => h.2)) (fun _ h => h.1))
    have n3_ := zm (KeepBut.blk hk (g' := gb477) (o := .cells #[.int .i64 t470, .int .i64 t471, .slice Ao19 t472.length co19] 26 (0, 0)) (zqK BK477.out) NB477_469.out (by simp))
    have n4_ := zm (Kd.Q_mono (Kd.Q_keep (IsS46.apartQ (show IsS46 w _ gb469 l0 t486 t487 from by repeat (first | (with_reducible first | exact HI469.out | apply zv1 | apply zv2 | apply zv3 | apply zv4 | apply zv5 | refine zv6 ?_ NB469_467.out _ | refine zv6 ?_ NB469_468.out _ | refine zv6 ?_ NB469_477.out _) | exact HI469.out)) zq65 (by decide)) hk (fun _ h => h.2)) (fun _ h => h.1))
    have n5_ := zm (Kd.R_mono (Kd.R_keep (IsS46.apart (show IsS46 w _ gb469 l0 t486 t487 from by repeat (first | (with_reducible first | exact HI469.out | apply zv1 | apply zv2 | apply zv3 | apply zv4 | apply zv5 | refine zv6 ?_ NB469_467.out _ | refine zv6 ?_ NB469_468.out _ | refine zv6 ?_ NB469_477.out _) | exact HI469.out)) (zqR HO490.out) (by decide)) hk (fun _ h => h.2)) (fun _ h => h.1))
    have n6_ := zm (hb)
    have n7_ := zm (hi)
    clear BK467
    clear BK468
    clear HO474
    clear BK477
    clear HO485
    clear HO490
    clear HB
    clear HI469
    have BK467 := n0_
    have BK468 := n1_
    have HO474 := n2_
    have BK477 := n3_
    have HO485 := n4_
    have HO490 := n5_
    have HB := n6_
    have HI469 := n7_
    clear n0_ n1_ n2_ n3_ n4_ n5_ n6_ n7_
    (try clear hb)
    (try clear hb2)
    (try clear hk)
    (try clear hi)
    obtain ⟨Ao27, co27, eo27⟩ := Kd.R_slice HO490.out
    (first | subst eo27 | (injection eo27 with f1_ f2_ f3_; have f4_ := f1_.symm; have f5_ := f3_.symm; clear f1_ f2_ f3_; subst f4_; subst f5_))
    have q26 : ((ji6) : Int) ≤ ((y488.length : Int) : Int) := of_decide_eq_true zq6
    obtain ⟨i026, hi026, _, hsz26, _⟩ := info_parts info3
    have hroom26 : y488.length ≤ co27 := (Kd.R_reads' HO490.out).2.1
    have hC26 : Kd.C (Kd.int .i64) _ Ao27 y488.length y488 := (Kd.R_reads' HO490.out).2.2
    have hcut26 := cut_to (P := Try.prog) 24 3 .i64 Try.underlying24 hi026 Ao27 y488.length co27 (ji6) (of_decide_eq_true zq6) q26 hroom26
    have hr26 := Kd.C_take (m := ((ji6) : Int).toNat) hC26 (by omega)
    have hy26 : y494.length = ((ji6) : Int).toNat := (by rw [Ny494.out, List.length_take]; omega)
    rw [← Ny494.out] at hr26
    rw [← hy26] at hcut26
    have HR497 := zm hr26
    have HC497 := zm (show y494.length ≤ co27 from by omega)
    clear hr26 hC26 hroom26 hi026 hsz26
    have KY26 := zm hy26
    clear hy26
    have KL26 := zm (show ((ji6) : Int).toNat ≤ y488.length from by omega)
    replace q26 := eq_true q26
    refine hK.out _ _ ⟨(zyk BK477.out 0).trans rfl, (zyk BK477.out 1).trans rfl, (zyk BK477.out 2).trans rfl⟩ (fun hHeld => ?_)
    clear hK K
    refine norm_ (a' := ?_) ?_ ?_
    rotate_left
    ·
     show Act.put _ (some 25) _ = _
     simp only [Act.put, List.setIfInBounds_toArray, List.set_cons_zero, List.set_cons_succ, i64_w, i32_w]
     rfl
    refine zP 9 (some 26) #[zt, zt, zt, zt, zt, zt, zt, zt, zt, zt, zf, zf, zf, zf, zf, zf, zf] ?_ rfl rfl HT_ (Or.inl ⟨by rfl, ?_⟩) ?_ ?_ ?_
    rotate_left; · exact zqB
    rotate_left; · exact zqA
    refine zP 10 (some 27) #[zt, zt, zt, zt, zt, zt, zt, zt, zt, zt, zt, zf, zf, zf, zf, zf, zf] ?_ rfl rfl HT_ (Or.inl ⟨by rfl, ?_⟩) ?_ ?_ ?_
    rotate_left; · exact zqB
    rotate_left; · exact zqA
    exact norm_ (by simp only [putAll, Act.put, List.setIfInBounds_toArray, List.set_cons_zero, List.set_cons_succ]) (hCont (v484, .slice Ao27 y488.length co27) _ ⟨hHeld, (by (with_reducible repeat (first | apply Kd.R_alloc | apply Kd.R_drewN | apply Kd.R_drew)); exact Kd.R_mono HO474.out (fun _ hk => ⟨hk.1.2, hk.2⟩)), (by (with_reducible repeat (first | apply Kd.Q_alloc | apply Kd.Q_drewN | apply Kd.Q_drew)); exact Kd.Q_mono HO485.out (fun _ hk => ⟨hk.1.2, hk.2⟩)), (by (with_reducible repeat (first | apply Kd.R_alloc | apply Kd.R_drewN | apply Kd.R_drew)); exact Kd.R_mono HO490.out (fun _ hk => ⟨hk.1.2, hk.2⟩)), (zqK BK467.out), (zqK BK468.out), (zqK BK477.out), zq43, zq21⟩)
   ·
    skip
    refine goes_ Try.func20 (by kernel_rfl) rfl #[.pointer (some ⟨gb469, 0, none⟩), .int .i64 24] (by rfl) rfl rfl zq0 ?_
    with_reducible refine (spec_l1Cur_pick.calls gb469 l0 t486 t487 24 t491 t492 t493 w _ ?side1 ?side2 A5.out).mono ?_
    (case side1 => repeat (first | (with_reducible first | exact HI469.out | apply zv1 | apply zv2 | apply zv3 | apply zv4 | apply zv5 | refine zv6 ?_ NB469_467.out _ | refine zv6 ?_ NB469_468.out _ | refine zv6 ?_ NB469_477.out _) | exact HI469.out))
    (case side2 => repeat (first | (with_reducible first | exact HB.out | apply zya | apply zyp | apply zyr | refine zys ?_ (IsS46.ge HI469.out) | refine zys ?_ GE467.out | refine zys ?_ GE468.out | refine zys ?_ GE477.out) | exact HB.out))
    rintro e w23 ⟨rfl, hi, hb, hk⟩
    refine ⟨_, rfl, ?_⟩
    have n0_ := zm (KeepBut.blk hk (g' := gb467) (o := zcA) (zqK BK467.out) NB467_469.out (by simp))
    have n1_ := zm (KeepBut.blk hk (g' := gb468) (o := zcB) (zqK BK468.out) NB468_469.out (by simp))
    have n2_ := zm (Kd.R_mono (Kd.R_keep (IsS46.apart (show IsS46 w _ gb469 l0 t486 t487 from by repeat (first | (with_reducible first | exact HI469.out | apply zv1 | apply zv2 | apply zv3 | apply zv4 | apply zv5 | refine zv6 ?_ NB469_467.out _ | refine zv6 ?_ NB469_468.out _ | refine zv6 ?_ NB469_477.out _) | exact HI469.out)) (zqR HO474.out) (by decide)) hk (fun _ h => h.2)) (fun _ h => h.1))
    have n3_ := zm (KeepBut.blk hk (g' := gb477) (o := .cells #[.int .i64 t470, .int .i64 t471, .slice Ao19 t472.length co19] 26 (0, 0)) (zqK BK477.out) NB477_469.out (by simp))
    have n4_ := zm (Kd.Q_mono (Kd.Q_keep (IsS46.apartQ (show IsS46 w _ gb469 l0 t486 t487 from by repeat (first | (with_reducible first | exact HI469.out | apply zv1 | apply zv2 | apply zv3 | apply zv4 | apply zv5 | refine zv6 ?_ NB469_467.out _ | refine zv6 ?_ NB469_468.out _ | refine zv6 ?_ NB469_477.out _) | exact HI469.out)) zq65 (by decide)) hk (fun _ h => h.2)) (fun _ h => h.1))
    have n5_ := zm (hb)
    have n6_ := zm (hi)
    clear BK467
    clear BK468
    clear HO474
    clear BK477
    clear HO485
    clear HB
    clear HI469
    have BK467 := n0_
    have BK468 := n1_
    have HO474 := n2_
    have BK477 := n3_
    have HO485 := n4_
    have HB := n5_
    have HI469 := n6_
    clear n0_ n1_ n2_ n3_ n4_ n5_ n6_
    (try clear hb)
    (try clear hb2)
    (try clear hk)
    (try clear hi)
    refine hK.out _ _ ⟨(zyk BK477.out 0).trans rfl, (zyk BK477.out 1).trans rfl, (zyk BK477.out 2).trans rfl⟩ (fun hHeld => ?_)
    clear hK K
    refine norm_ (a' := ?_) ?_ ?_
    rotate_left
    ·
     show Act.put _ (some 25) _ = _
     simp only [Act.put, List.setIfInBounds_toArray, List.set_cons_zero, List.set_cons_succ, i64_w, i32_w]
     rfl
    refine zP 9 (some 26) #[zt, zt, zt, zt, zt, zt, zf, zt, zt, zt, zf, zf, zf, zf, zf, zf, zf] ?_ rfl rfl HT_ (Or.inl ⟨by rfl, ?_⟩) ?_ ?_ ?_
    rotate_left; · exact zqB
    rotate_left; · exact zqA
    refine zP 10 (some 27) #[zt, zt, zt, zt, zt, zt, zf, zt, zt, zt, zt, zf, zf, zf, zf, zf, zf] ?_ rfl rfl HT_ (Or.inl ⟨by rfl, ?_⟩) ?_ ?_ ?_
    rotate_left; · exact zqB
    rotate_left; · exact zqA
    refine one_ (i := 6) (N := some 23) #[zt, zt, zt, zt, zt, zt, zt, zt, zt, zt, zt, zf, zf, zf, zf, zf, zf] rfl rfl (one_of HT_.out (by kernel_rfl)) (by decide) (fun K hK => ?_)
    refine Kd.R_lit_step (Kd.int .i64) _ 3 ?hg (N := 23) ?hd (xs := ([0, 10, 20, 21, 9001, (-9001)] : List Int)) (inner := [.int .i64 0, .int .i64 10, .int .i64 20, .int .i64 21, .int .i64 9001, .int .i64 (-9001)]) (ok := fun _ => True) (okp := fun _ => True) ?hr ?hp (fun _ hk => hk) trivial (Below.refl _ _) (Nat.le_refl _) (by simp) ?_; (case hd => rfl); (case hg => rfl); (case hr => exact zqS); (case hp => exact (Reps.one (show Kd.M (Kd.int .i64) _ _ _ 0 [.int .i64 0] from rfl) (Reps.one (show Kd.M (Kd.int .i64) _ _ _ 10 [.int .i64 10] from rfl) (Reps.one (show Kd.M (Kd.int .i64) _ _ _ 20 [.int .i64 20] from rfl) (Reps.one (show Kd.M (Kd.int .i64) _ _ _ 21 [.int .i64 21] from rfl) (Reps.one (show Kd.M (Kd.int .i64) _ _ _ 9001 [.int .i64 9001] from rfl) (Reps.one (show Kd.M (Kd.int .i64) _ _ _ (-9001) [.int .i64 (-9001)] from rfl) (Reps.none _ _))))))))
    intro v489 w24 ho25 hb hg_ hnew_
    clear hg_ hnew_
    (first | rw [← Ny488.out] at ho25 | (simp only [Int.reduceToNat] at ho25; rw [← Ny488.out] at ho25))
    have n0_ := zm (Kd.R_elder' (zqR HO474.out) (Kd.R_base ho25) hb)
    have n1_ := zm (Kd.Q_elder' zq65 (Kd.R_base ho25) hb)
    have n2_ := zm (Kd.R_lower (Kd.R_new' (Kd.R_new' ho25 (Kd.R_lt (zqR HO474.out))) (Kd.Q_lt zq65)) (zyi zq21))
    have n3_ := zm (zyb (g := gb467) (o := zcA) (zqK BK467.out) hb)
    have n4_ := zm (zyb (g := gb468) (o := zcB) (zqK BK468.out) hb)
    have n5_ := zm (IsS46.below zq43 hb)
    have n6_ := zm (zyb (g := gb477) (o := .cells #[.int .i64 t470, .int .i64 t471, .slice Ao19 t472.length co19] 26 (0, 0)) (zqK BK477.out) hb)
    have n7_ := zm (zyh zq21 hb)
    clear HO474
    clear HO485
    clear BK467
    clear BK468
    clear HI469
    clear BK477
    clear HB
    have HO474 := n0_
    have HO485 := n1_
    have HO490 := n2_
    have BK467 := n3_
    have BK468 := n4_
    have HI469 := n5_
    have BK477 := n6_
    have HB := n7_
    clear n0_ n1_ n2_ n3_ n4_ n5_ n6_ n7_
    clear hb ho25
    obtain ⟨Ao27, co27, eo27⟩ := Kd.R_slice HO490.out
    (first | subst eo27 | (injection eo27 with f1_ f2_ f3_; have f4_ := f1_.symm; have f5_ := f3_.symm; clear f1_ f2_ f3_; subst f4_; subst f5_))
    have q26 : ((ji6) : Int) ≤ ((y488.length : Int) : Int) := of_decide_eq_true zq6
    obtain ⟨i026, hi026, _, hsz26, _⟩ := info_parts info3
    have hroom26 : y488.length ≤ co27 := (Kd.R_reads' HO490.out).2.1
    have hC26 : Kd.C (Kd.int .i64) _ Ao27 y488.length y488 := (Kd.R_reads' HO490.out).2.2
    have hcut26 := cut_to (P := Try.prog) 24 3 .i64 Try.underlying24 hi026 Ao27 y488.length co27 (ji6) (of_decide_eq_true zq6) q26 hroom26
    have hr26 := Kd.C_take (m := ((ji6) : Int).toNat) hC26 (by omega)
    have hy26 : y494.length = ((ji6) : Int).toNat := (by rw [Ny494.out, List.length_take]; omega)
    rw [← Ny494.out] at hr26
    rw [← hy26] at hcut26
    have HR497 := zm hr26
    have HC497 := zm (show y494.length ≤ co27 from by omega)
    clear hr26 hC26 hroom26 hi026 hsz26
    have KY26 := zm hy26
    clear hy26
    have KL26 := zm (show ((ji6) : Int).toNat ≤ y488.length from by omega)
    replace q26 := eq_true q26
    refine hK.out _ _ ⟨(zyk BK477.out 0).trans rfl, (zyk BK477.out 1).trans rfl, (zyk BK477.out 2).trans rfl⟩ (fun hHeld => ?_)
    clear hK K
    refine norm_ (a' := ?_) ?_ ?_
    rotate_left
    ·
     show Act.put _ (some 23) _ = _
     simp only [Act.put, List.setIfInBounds_toArray, List.set_cons_zero, List.set_cons_succ, i64_w, i32_w]
     rfl
    exact norm_ (by simp only [putAll, Act.put, List.setIfInBounds_toArray, List.set_cons_zero, List.set_cons_succ]) (hCont (v484, .slice Ao27 y488.length co27) _ ⟨hHeld, (by (with_reducible repeat (first | apply Kd.R_alloc | apply Kd.R_drewN | apply Kd.R_drew)); exact Kd.R_mono HO474.out (fun _ hk => ⟨hk.1.2, hk.2⟩)), (by (with_reducible repeat (first | apply Kd.Q_alloc | apply Kd.Q_drewN | apply Kd.Q_drew)); exact Kd.Q_mono HO485.out (fun _ hk => ⟨hk.1.2, hk.2⟩)), (by (with_reducible repeat (first | apply Kd.R_alloc | apply Kd.R_drewN | apply Kd.R_drew)); exact Kd.R_mono HO490.out (fun _ hk => ⟨hk.1.2, hk.2⟩)), (zqK BK467.out), (zqK BK468.out), (zqK BK477.out), zq43, zq21⟩)
  ·
   skip
   refine Kd.R_lit_step (Kd.int .i64) _ 3 ?hg (N := 23) ?hd (xs := ([0, 10, 20, 21, 9001, (-9001)] : List Int)) (inner := [.int .i64 0, .int .i64 10, .int .i64 20, .int .i64 21, .int .i64 9001, .int .i64 (-9001)]) (ok := fun _ => True) (okp := fun _ => True) ?hr ?hp (fun _ hk => hk) trivial (Below.refl _ _) (Nat.le_refl _) (by simp) ?_; (case hd => rfl); (case hg => rfl); (case hr => exact zqS); (case hp => exact (Reps.one (show Kd.M (Kd.int .i64) _ _ _ 0 [.int .i64 0] from rfl) (Reps.one (show Kd.M (Kd.int .i64) _ _ _ 10 [.int .i64 10] from rfl) (Reps.one (show Kd.M (Kd.int .i64) _ _ _ 20 [.int .i64 20] from rfl) (Reps.one (show Kd.M (Kd.int .i64) _ _ _ 21 [.int .i64 21] from rfl) (Reps.one (show Kd.M (Kd.int .i64) _ _ _ 9001 [.int .i64 9001] from rfl) (Reps.one (show Kd.M (Kd.int .i64) _ _ _ (-9001) [.int .i64 (-9001)] from rfl) (Reps.none _ _))))))))
   intro v489 w22 ho23 hb hg_ hnew_
   clear hg_ hnew_
   (first | rw [← Ny488.out] at ho23 | (simp only [Int.reduceToNat] at ho23; rw [← Ny488.out] at ho23))
   have n0_ := zm (Kd.R_elder' (zqR HO474.out) (Kd.R_base ho23) hb)
   have n1_ := zm (Kd.R_lower (Kd.R_new' ho23 (Kd.R_lt (zqR HO474.out))) (zyi zq21))
   have n2_ := zm (zyb (g := gb467) (o := zcA) (zqK BK467.out) hb)
   have n3_ := zm (zyb (g := gb468) (o := zcB) (zqK BK468.out) hb)
   have n4_ := zm (IsS46.below zq43 hb)
   have n5_ := zm (zyb (g := gb477) (o := .cells #[.int .i64 t470, .int .i64 t471, .slice Ao19 t472.length co19] 26 (0, 0)) (zqK BK477.out) hb)
   have n6_ := zm (zyh zq21 hb)
   clear HO474
   clear BK467
   clear BK468
   clear HI469
   clear BK477
   clear HB
   have HO474 := n0_
   have HO490 := n1_
   have BK467 := n2_
   have BK468 := n3_
   have HI469 := n4_
   have BK477 := n5_
   have HB := n6_
   clear n0_ n1_ n2_ n3_ n4_ n5_ n6_
   clear hb ho23
   refine hK.out _ _ ⟨(zyk BK477.out 0).trans rfl, (zyk BK477.out 1).trans rfl, (zyk BK477.out 2).trans rfl⟩ (fun hHeld => ?_)
   clear hK K
   refine norm_ (a' := ?_) ?_ ?_
   rotate_left
   ·
    show Act.put _ (some 23) _ = _
    simp only [Act.put, List.setIfInBounds_toArray, List.set_cons_zero, List.set_cons_succ, i64_w, i32_w]
    rfl
   refine one_ (i := 4) (N := some 21) #[zt, zt, zt, zt, zt, zt, zt, zt, zf, zf, zf, zf, zf, zf, zf, zf, zf] rfl rfl (one_of HT_.out (by kernel_rfl)) (by decide) (fun K hK => ?_)
   refine goes_ Try.func18 (by kernel_rfl) rfl #[.pointer (some ⟨gb469, 0, none⟩), .agg #[.int .i64 t470, .int .i64 t471, .slice Ao19 t472.length co19]] (by rfl) rfl rfl zq0 ?_
   with_reducible refine (spec_l1Cur_fieldOf.calls k gb469 l0 t479 t480 t470 t471 _ _ t472 t481 t482 t483 t486 t487 w _ ?side1 ?side2 ?side3 ?side4 ?side5 A4.out).mono ?_
   (case side1 => repeat (first | (with_reducible first | exact HI469.out | apply zv1 | apply zv2 | apply zv3 | apply zv4 | apply zv5 | refine zv6 ?_ NB469_467.out _ | refine zv6 ?_ NB469_468.out _ | refine zv6 ?_ NB469_477.out _) | exact HI469.out))
   (case side2 => repeat (first | (with_reducible first | exact HB.out | apply zya | apply zyp | apply zyr | refine zys ?_ (IsS46.ge HI469.out) | refine zys ?_ GE467.out | refine zys ?_ GE468.out | refine zys ?_ GE477.out) | exact HB.out))
   (case side3 => exact zqC (Kd.R_reads' HO474.out).2.2)
   (case side4 => exact (Kd.R_reads' HO474.out).2.1)
   (case side5 => intro ad e_ _ q_; have o_ := HO474.out; have ne_ := IsS46.own_ne (e := 3) HI469.out o_ (by decide); rw [e_] at ne_; exact ne_ (by simp [Value.ownBlock, q_]))
   rintro e w24 ⟨v484, rfl, ho0, hi, hb, hk⟩
   refine ⟨_, rfl, ?_⟩
   have n0_ := zm (KeepBut.blk hk (g' := gb467) (o := zcA) (zqK BK467.out) NB467_469.out (by simp))
   have n1_ := zm (KeepBut.blk hk (g' := gb468) (o := zcB) (zqK BK468.out) NB468_469.out (by simp))
   have n2_ := zm (Kd.R_mono (Kd.R_told (Kd.R_oldK (IsS46.apart (show IsS46 w _ gb469 l0 t479 t480 from by repeat (first | (with_reducible first | exact HI469.out | apply zv1 | apply zv2 | apply zv3 | apply zv4 | apply zv5 | refine zv6 ?_ NB469_467.out _ | refine zv6 ?_ NB469_468.out _ | refine zv6 ?_ NB469_477.out _) | exact HI469.out)) (zqR HO474.out) (by decide)) hk) (Kd.Q_base ho0)) (fun _ h_ => h_.1))
   have n3_ := zm (KeepBut.blk hk (g' := gb477) (o := .cells #[.int .i64 t470, .int .i64 t471, .slice Ao19 t472.length co19] 26 (0, 0)) (zqK BK477.out) NB477_469.out (by simp))
   have n4_ := zm (Kd.R_mono (Kd.R_told (Kd.R_oldK (IsS46.apart (show IsS46 w _ gb469 l0 t479 t480 from by repeat (first | (with_reducible first | exact HI469.out | apply zv1 | apply zv2 | apply zv3 | apply zv4 | apply zv5 | refine zv6 ?_ NB469_467.out _ | refine zv6 ?_ NB469_468.out _ | refine zv6 ?_ NB469_477.out _) | exact HI469.out)) (zqR HO490.out) (by decide)) hk) (Kd.Q_base ho0)) (fun _ h_ => h_.1))
   have n5_ := zm (Kd.Q_lower (Kd.Q_new' (Kd.Q_new' ho0 (Kd.R_lt (zqR HO474.out))) (Kd.R_lt (zqR HO490.out))) (zyi zq21))
   have n6_ := zm (hb)
   have n7_ := zm (hi)
   clear BK467
   clear BK468
   clear HO474
   clear BK477
   clear HO490
   clear HB
   clear HI469
   have BK467 := n0_
   have BK468 := n1_
   have HO474 := n2_
   have BK477 := n3_
   have HO490 := n4_
   have HO485 := n5_
   have HB := n6_
   have HI469 := n7_
   clear n0_ n1_ n2_ n3_ n4_ n5_ n6_ n7_
   (try clear hb)
   (try clear hb2)
   (try clear hk)
   (try clear hi)
   (try clear ho0)
   refine hK.out _ _ ⟨(zyk BK477.out 0).trans rfl, (zyk BK477.out 1).trans rfl, (zyk BK477.out 2).trans rfl⟩ (fun hHeld => ?_)
   clear hK K
   refine norm_ (a' := ?_) ?_ ?_
   rotate_left
   ·
    show Act.put _ (some 21) _ = _
    simp only [Act.put, List.setIfInBounds_toArray, List.set_cons_zero, List.set_cons_succ, i64_w, i32_w]
    rfl
   refine one_ (i := 8) (N := some 25) #[zt, zt, zt, zt, zt, zt, zt, zt, zt, zf, zf, zf, zf, zf, zf, zf, zf] rfl rfl (one_of HT_.out (by kernel_rfl)) (by decide) (fun K hK => ?_)
   refine goes_ Try.func20 (by kernel_rfl) rfl #[.pointer (some ⟨gb469, 0, none⟩), .int .i64 24] (by rfl) rfl rfl zq0 ?_
   with_reducible refine (spec_l1Cur_pick.calls gb469 l0 t486 t487 24 t491 t492 t493 w _ ?side1 ?side2 A5.out).mono ?_
   (case side1 => repeat (first | (with_reducible first | exact HI469.out | apply zv1 | apply zv2 | apply zv3 | apply zv4 | apply zv5 | refine zv6 ?_ NB469_467.out _ | refine zv6 ?_ NB469_468.out _ | refine zv6 ?_ NB469_477.out _) | exact HI469.out))
   (case side2 => repeat (first | (with_reducible first | exact HB.out | apply zya | apply zyp | apply zyr | refine zys ?_ (IsS46.ge HI469.out) | refine zys ?_ GE467.out | refine zys ?_ GE468.out | refine zys ?_ GE477.out) | exact HB.out))
   rintro e w25 ⟨rfl, hi, hb, hk⟩
   refine ⟨_, rfl, ?_⟩
   have n0_ := zm (KeepBut.blk hk (g' := gb467) (o := zcA) (zqK BK467.out) NB467_469.out (by simp))
   have n1_ := zm (KeepBut.blk hk (g' := gb468) (o := zcB) (zqK BK468.out) NB468_469.out (by simp))
   have n2_ := zm (Kd.R_mono (Kd.R_keep (IsS46.apart (show IsS46 w _ gb469 l0 t486 t487 from by repeat (first | (with_reducible first | exact HI469.out | apply zv1 | apply zv2 | apply zv3 | apply zv4 | apply zv5 | refine zv6 ?_ NB469_467.out _ | refine zv6 ?_ NB469_468.out _ | refine zv6 ?_ NB469_477.out _) | exact HI469.out)) (zqR HO474.out) (by decide)) hk (fun _ h => h.2)) (fun _ h => h.1))
   have n3_ := zm (KeepBut.blk hk (g' := gb477) (o := .cells #[.int .i64 t470, .int .i64 t471, .slice Ao19 t472.length co19] 26 (0, 0)) (zqK BK477.out) NB477_469.out (by simp))
   have n4_ := zm (Kd.R_mono (Kd.R_keep (IsS46.apart (show IsS46 w _ gb469 l0 t486 t487 from by repeat (first | (with_reducible first | exact HI469.out | apply zv1 | apply zv2 | apply zv3 | apply zv4 | apply zv5 | refine zv6 ?_ NB469_467.out _ | refine zv6 ?_ NB469_468.out _ | refine zv6 ?_ NB469_477.out _) | exact HI469.out)) (zqR HO490.out) (by decide)) hk (fun _ h => h.2)) (fun _ h => h.1))
   have n5_ := zm (Kd.Q_mono (Kd.Q_keep (IsS46.apartQ (show IsS46 w _ gb469 l0 t486 t487 from by repeat (first | (with_reducible first | exact HI469.out | apply zv1 | apply zv2 | apply zv3 | apply zv4 | apply zv5 | refine zv6 ?_ NB469_467.out _ | refine zv6 ?_ NB469_468.out _ | refine zv6 ?_ NB469_477.out _) | exact HI469.out)) zq65 (by decide)) hk (fun _ h => h.2)) (fun _ h => h.1))
   have n6_ := zm (hb)
   have n7_ := zm (hi)
   clear BK467
   clear BK468
   clear HO474
   clear BK477
   clear HO490
   clear HO485
   clear HB
   clear HI469
   have BK467 := n0_
   have BK468 := n1_
   have HO474 := n2_
   have BK477 := n3_
   have HO490 := n4_
   have HO485 := n5_
   have HB := n6_
   have HI469 := n7_
   clear n0_ n1_ n2_ n3_ n4_ n5_ n6_ n7_
   (try clear hb)
   (try clear hb2)
   (try clear hk)
   (try clear hi)
   obtain ⟨Ao27, co27, eo27⟩ := Kd.R_slice HO490.out
   (first | subst eo27 | (injection eo27 with f1_ f2_ f3_; have f4_ := f1_.symm; have f5_ := f3_.symm; clear f1_ f2_ f3_; subst f4_; subst f5_))
   have q26 : ((ji6) : Int) ≤ ((y488.length : Int) : Int) := of_decide_eq_true zq6
   obtain ⟨i026, hi026, _, hsz26, _⟩ := info_parts info3
   have hroom26 : y488.length ≤ co27 := (Kd.R_reads' HO490.out).2.1
   have hC26 : Kd.C (Kd.int .i64) _ Ao27 y488.length y488 := (Kd.R_reads' HO490.out).2.2
   have hcut26 := cut_to (P := Try.prog) 24 3 .i64 Try.underlying24 hi026 Ao27 y488.length co27 (ji6) (of_decide_eq_true zq6) q26 hroom26
   have hr26 := Kd.C_take (m := ((ji6) : Int).toNat) hC26 (by omega)
   have hy26 : y494.length = ((ji6) : Int).toNat := (by rw [Ny494.out, List.length_take]; omega)
   rw [← Ny494.out] at hr26
   rw [← hy26] at hcut26
   have HR497 := zm hr26
   have HC497 := zm (show y494.length ≤ co27 from by omega)
   clear hr26 hC26 hroom26 hi026 hsz26
   have KY26 := zm hy26
   clear hy26
   have KL26 := zm (show ((ji6) : Int).toNat ≤ y488.length from by omega)
   replace q26 := eq_true q26
   refine hK.out _ _ ⟨(zyk BK477.out 0).trans rfl, (zyk BK477.out 1).trans rfl, (zyk BK477.out 2).trans rfl⟩ (fun hHeld => ?_)
   clear hK K
   refine norm_ (a' := ?_) ?_ ?_
   rotate_left
   ·
    show Act.put _ (some 25) _ = _
    simp only [Act.put, List.setIfInBounds_toArray, List.set_cons_zero, List.set_cons_succ, i64_w, i32_w]
    rfl
   refine zP 9 (some 26) #[zt, zt, zt, zt, zt, zt, zt, zt, zt, zt, zf, zf, zf, zf, zf, zf, zf] ?_ rfl rfl HT_ (Or.inl ⟨by rfl, ?_⟩) ?_ ?_ ?_
   rotate_left; · exact zqB
   rotate_left; · exact zqA
   refine zP 10 (some 27) #[zt, zt, zt, zt, zt, zt, zt, zt, zt, zt, zt, zf, zf, zf, zf, zf, zf] ?_ rfl rfl HT_ (Or.inl ⟨by rfl, ?_⟩) ?_ ?_ ?_
   rotate_left; · exact zqB
   rotate_left; · exact zqA
   exact norm_ (by simp only [putAll, Act.put, List.setIfInBounds_toArray, List.set_cons_zero, List.set_cons_succ]) (hCont (v484, .slice Ao27 y488.length co27) _ ⟨hHeld, (by (with_reducible repeat (first | apply Kd.R_alloc | apply Kd.R_drewN | apply Kd.R_drew)); exact Kd.R_mono HO474.out (fun _ hk => ⟨hk.2, hk.1.2⟩)), (by (with_reducible repeat (first | apply Kd.Q_alloc | apply Kd.Q_drewN | apply Kd.Q_drew)); exact Kd.Q_mono HO485.out (fun _ hk => ⟨hk.1.2, hk.2⟩)), (by (with_reducible repeat (first | apply Kd.R_alloc | apply Kd.R_drewN | apply Kd.R_drew)); exact Kd.R_mono HO490.out (fun _ hk => ⟨hk.1.2, hk.2⟩)), (zqK BK467.out), (zqK BK468.out), (zqK BK477.out), zq43, zq21⟩)
 rintro ⟨v484, v489⟩ w28 ⟨hS_, h0_, h1_, h2_, h3_, h4_, h5_, h6_, h7_⟩
 have n0_ : Aside0 (Kd.R (Kd.int .i64) 3 w28 w.heap.size (fun k_ => some k_ ≠ (v484 : Value).ownBlock ∧ some k_ ≠ (v489 : Value).ownBlock) (.slice Ao19 t472.length co19) t472) := ⟨h0_⟩
 have n1_ : Aside0 (Kd.Q (Kd.int .i64) 3 w28 w.heap.size (fun k_ => some k_ ≠ (.slice Ao19 t472.length co19 : Value).ownBlock ∧ some k_ ≠ (v489 : Value).ownBlock) v484 t483) := ⟨h1_⟩
 have n2_ : Aside0 (Kd.R (Kd.int .i64) 3 w28 w.heap.size (fun k_ => some k_ ≠ (.slice Ao19 t472.length co19 : Value).ownBlock ∧ some k_ ≠ (v484 : Value).ownBlock) v489 y488) := ⟨h2_⟩
 have n3_ : Aside0 (w28.heap[gb467]? = some (.cells #[.int .i64 0, .int .i64 0, .slice none 0 0] 26 (0, 0))) := ⟨h3_⟩
 have n4_ : Aside0 (w28.heap[gb468]? = some (.cells #[.int .i64 0, .int .i64 0, .slice none 0 0] 27 (0, 0))) := ⟨h4_⟩
 have n5_ : Aside0 (w28.heap[gb477]? = some (.cells #[.int .i64 t470, .int .i64 t471, .slice Ao19 t472.length co19] 26 (0, 0))) := ⟨h5_⟩
 have n6_ : Aside0 (IsS46 w w28 gb469 l0 t492 t493) := ⟨h6_⟩
 have n7_ : Aside0 (Below w.heap.size w w28) := ⟨h7_⟩
 clear HO474
 clear BK467
 clear BK468
 clear BK477
 clear HI469
 clear HB
 clear h0_ h1_ h2_ h3_ h4_ h5_ h6_ h7_
 have HO474 := n0_
 have HO485 := n1_
 have HO490 := n2_
 have BK467 := n3_
 have BK468 := n4_
 have BK477 := n5_
 have HI469 := n6_
 have HB := n7_
 clear n0_ n1_ n2_ n3_ n4_ n5_ n6_ n7_
 have hHeld : w28.cell? ⟨gb477, 0, none⟩ = some (.int .i64 t470) ∧ w28.cell? ⟨gb477, 1, none⟩ = some (.int .i64 t471) ∧ w28.cell? ⟨gb477, 2, none⟩ = some (.slice Ao19 t472.length co19) := hS_
 obtain ⟨Ao30, co30, eo30⟩ := Kd.R_slice HO490.out
 (first | subst eo30 | (injection eo30 with f1_ f2_ f3_; have f4_ := f1_.symm; have f5_ := f3_.symm; clear f1_ f2_ f3_; subst f4_; subst f5_))
 have q29 : ((ji6) : Int) ≤ ((y488.length : Int) : Int) := of_decide_eq_true zq6
 obtain ⟨i029, hi029, _, hsz29, _⟩ := info_parts info3
 have hroom29 : y488.length ≤ co30 := (Kd.R_reads' HO490.out).2.1
 have hC29 : Kd.C (Kd.int .i64) _ Ao30 y488.length y488 := (Kd.R_reads' HO490.out).2.2
 have hcut29 := cut_to (P := Try.prog) 24 3 .i64 Try.underlying24 hi029 Ao30 y488.length co30 (ji6) (of_decide_eq_true zq6) q29 hroom29
 have hr29 := Kd.C_take (m := ((ji6) : Int).toNat) hC29 (by omega)
 have hy29 : y494.length = ((ji6) : Int).toNat := (by rw [Ny494.out, List.length_take]; omega)
 rw [← Ny494.out] at hr29
 rw [← hy29] at hcut29
 have HR497 := zm hr29
 have HC497 := zm (show y494.length ≤ co30 from by omega)
 clear hr29 hC29 hroom29 hi029 hsz29
 have KY29 := zm hy29
 clear hy29
 have KL29 := zm (show ((ji6) : Int).toNat ≤ y488.length from by omega)
 replace q29 := eq_true q29
 refine norm_ (a' := ?_) ?_ ?_
 rotate_left
 ·
  simp only [putAll, Act.put, List.setIfInBounds_toArray, List.set_cons_zero, List.set_cons_succ]
  rfl
 refine zP 11 (some 28) #[zt, zt, zt, zt, zt, zt, zt, zt, zt, zt, zt, zt, zf, zf, zf, zf, zf] ?_ rfl rfl HT_ (Or.inl ⟨by rfl, ?_⟩) ?_ ?_ ?_
 rotate_left; · exact zqB
 rotate_left; · exact zqA
 refine one_ (i := 12) (N := some 29) #[zt, zt, zt, zt, zt, zt, zt, zt, zt, zt, zt, zt, zt, zf, zf, zf, zf] rfl rfl (one_of HT_.out (by kernel_rfl)) (by decide) (fun K hK => ?_)
 refine goes_ Try.func19 (by kernel_rfl) rfl #[.pointer (some ⟨gb469, 0, none⟩), .slice Ao30 y494.length co30] (by rfl) rfl rfl zq0 ?_
 with_reducible refine (spec_l1Cur_among.calls gb469 l0 t492 t493 _ _ y494 t498 t499 t500 w _ ?side1 ?side2 ?side3 ?side4 ?side5 A9.out).mono ?_
 (case side1 => repeat (first | (with_reducible first | exact HI469.out | apply zv1 | apply zv2 | apply zv3 | apply zv4 | apply zv5 | refine zv6 ?_ NB469_467.out _ | refine zv6 ?_ NB469_468.out _ | refine zv6 ?_ NB469_477.out _) | exact HI469.out))
 (case side2 => repeat (first | (with_reducible first | exact HB.out | apply zya | apply zyp | apply zyr | refine zys ?_ (IsS46.ge HI469.out) | refine zys ?_ GE467.out | refine zys ?_ GE468.out | refine zys ?_ GE477.out) | exact HB.out))
 (case side3 => repeat (first | exact (by repeat (first | (with_reducible exact HR497.out) | (with_reducible refine Kd.C_alloc ?_ _) | (with_reducible refine Kd.C_drewN ?_ _) | (with_reducible refine Kd.C_drew ?_) | exact HR497.out)) | (with_reducible refine Kd.C_alloc ?_ _) | (with_reducible refine Kd.C_drewN ?_ _) | (with_reducible refine Kd.C_drew ?_)))
 (case side4 => exact HC497.out)
 (case side5 => intro ad e_ _ q_; have o_ := HO490.out; have ne_ := IsS46.own_ne (e := 3) HI469.out o_ (by decide); rw [e_] at ne_; exact ne_ (by simp [Value.ownBlock, q_]))
 rintro e w31 ⟨rfl, hi, hb, hk⟩
 refine ⟨_, rfl, ?_⟩
 have n0_ := zm (KeepBut.blk hk (g' := gb467) (o := zcA) (zqK BK467.out) NB467_469.out (by simp))
 have n1_ := zm (KeepBut.blk hk (g' := gb468) (o := zcB) (zqK BK468.out) NB468_469.out (by simp))
 have n2_ := zm (Kd.R_mono (Kd.R_keep (IsS46.apart (show IsS46 w _ gb469 l0 t492 t493 from by repeat (first | (with_reducible first | exact HI469.out | apply zv1 | apply zv2 | apply zv3 | apply zv4 | apply zv5 | refine zv6 ?_ NB469_467.out _ | refine zv6 ?_ NB469_468.out _ | refine zv6 ?_ NB469_477.out _) | exact HI469.out)) (zqR HO474.out) (by decide)) hk (fun _ h => h.2)) (fun _ h => h.1))
 have n3_ := zm (KeepBut.blk hk (g' := gb477) (o := .cells #[.int .i64 t470, .int .i64 t471, .slice Ao19 t472.length co19] 26 (0, 0)) (zqK BK477.out) NB477_469.out (by simp))
 have n4_ := zm (Kd.Q_mono (Kd.Q_keep (IsS46.apartQ (show IsS46 w _ gb469 l0 t492 t493 from by repeat (first | (with_reducible first | exact HI469.out | apply zv1 | apply zv2 | apply zv3 | apply zv4 | apply zv5 | refine zv6 ?_ NB469_467.out _ | refine zv6 ?_ NB469_468.out _ | refine zv6 ?_ NB469_477.out _) | exact HI469.out)) zq65 (by decide)) hk (fun _ h => h.2)) (fun _ h => h.1))
 have n5_ := zm (Kd.R_mono (Kd.R_keep (IsS46.apart (show IsS46 w _ gb469 l0 t492 t493 from by repeat (first | (with_reducible first | exact HI469.out | apply zv1 | apply zv2 | apply zv3 | apply zv4 | apply zv5 | refine zv6 ?_ NB469_467.out _ | refine zv6 ?_ NB469_468.out _ | refine zv6 ?_ NB469_477.out _) | exact HI469.out)) (zqR HO490.out) (by decide)) hk (fun _ h => h.2)) (fun _ h => h.1))
 have n6_ := zm (hb)
 have n7_ := zm (hi)
 clear BK467
 clear BK468
 clear HO474
 clear BK477
 clear HO485
 clear HO490
 clear HB
 clear HI469
 have BK467 := n0_
 have BK468 := n1_
 have HO474 := n2_
 have BK477 := n3_
 have HO485 := n4_
 have HO490 := n5_
 have HB := n6_
 have HI469 := n7_
 clear n0_ n1_ n2_ n3_ n4_ n5_ n6_ n7_
 (try clear hb)
 (try clear hb2)
 (try clear hk)
 (try clear hi)
 obtain ⟨Ao37, co37, eo37, _⟩ := Kd.Q_slice HO485.out
 (first | subst eo37 | (injection eo37 with f1_ f2_ f3_; have f4_ := f1_.symm; have f5_ := f3_.symm; clear f1_ f2_ f3_; subst f4_; subst f5_))
 refine hK.out _ _ ⟨(zyk BK477.out 0).trans rfl, (zyk BK477.out 1).trans rfl, (zyk BK477.out 2).trans rfl⟩ (fun hHeld => ?_)
 clear hK K
 refine norm_ (a' := ?_) ?_ ?_
 rotate_left
 ·
  show Act.put _ (some 29) _ = _
  simp only [Act.put, List.setIfInBounds_toArray, List.set_cons_zero, List.set_cons_succ, i64_w, i32_w]
  rfl
 refine one_ (i := 13) (N := none) #[zt, zt, zt, zt, zt, zt, zt, zt, zt, zt, zt, zt, zt, zt, zf, zf, zf] rfl rfl (one_of HT_.out (by kernel_rfl)) (by decide) (fun K hK => ?_)
 have hs32 : w31.cell? ⟨gb467, 0, none⟩ = some (.int .i64 0) := (zyk BK467.out 0).trans rfl
 have hfs32 := zyF BK467.out 0
 have hns32_1 := NB468_467.out
 have hns32_2 := NB477_467.out
 have hms32_1 := NB467_468.out
 have hms32_2 := NB467_477.out
 have hs33 : w31.cell? ⟨gb467, 1, none⟩ = some (.int .i64 0) := (zyk BK467.out 1).trans rfl
 have hfs33 := zyF BK467.out 1
 have hns33_1 := NB468_467.out
 have hns33_2 := NB477_467.out
 have hms33_1 := NB467_468.out
 have hms33_2 := NB467_477.out
 have hs34 : w31.cell? ⟨gb467, 2, none⟩ = some (.slice none 0 0) := (zyk BK467.out 2).trans rfl
 have hfs34 := zyF BK467.out 2
 have hns34_1 := NB468_467.out
 have hns34_2 := NB477_467.out
 have hms34_1 := NB467_468.out
 have hms34_2 := NB467_477.out
 refine skip_ (w1 := ?_) (by rfl) rfl ?_ ?_
 rotate_left
 ·
  go_simp
  rfl
 refine hK.out _ _ ⟨((cell_far (p := ⟨gb467, _, none⟩) NB477_467.out _).trans (((cell_far (p := ⟨gb467, _, none⟩) NB477_467.out _).trans (((cell_far (p := ⟨gb467, _, none⟩) NB477_467.out _).trans (hHeld.1)))))), ((cell_far (p := ⟨gb467, _, none⟩) NB477_467.out _).trans (((cell_far (p := ⟨gb467, _, none⟩) NB477_467.out _).trans (((cell_far (p := ⟨gb467, _, none⟩) NB477_467.out _).trans (hHeld.2.1)))))), ((cell_far (p := ⟨gb467, _, none⟩) NB477_467.out _).trans (((cell_far (p := ⟨gb467, _, none⟩) NB477_467.out _).trans (((cell_far (p := ⟨gb467, _, none⟩) NB477_467.out _).trans (hHeld.2.2))))))⟩ (fun hHeld => ?_)
 clear hK K
 refine zP 14 (some 3) #[zt, zt, zt, zt, zt, zt, zt, zt, zt, zt, zt, zt, zt, zt, zt, zf, zf] ?_ rfl rfl HT_ (Or.inl ⟨by rfl, ?_⟩) ?_ ?_ ?_
 rotate_left; · exact zqB
 rotate_left; · exact zqA
 refine one_ (i := 15) (N := none) #[zt, zt, zt, zt, zt, zt, zt, zt, zt, zt, zt, zt, zt, zt, zt, zt, zf] rfl rfl (one_of HT_.out (by kernel_rfl)) (by decide) (fun K hK => ?_)
 have hs35 : w31.cell? ⟨gb468, 0, none⟩ = some (.int .i64 0) := (zyk BK468.out 0).trans rfl
 have hfs35 := zyF BK468.out 0
 have hns35_0 := NB467_468.out
 have hns35_2 := NB477_468.out
 have hms35_0 := NB468_467.out
 have hms35_2 := NB468_477.out
 have hs36 : w31.cell? ⟨gb468, 1, none⟩ = some (.int .i64 0) := (zyk BK468.out 1).trans rfl
 have hfs36 := zyF BK468.out 1
 have hns36_0 := NB467_468.out
 have hns36_2 := NB477_468.out
 have hms36_0 := NB468_467.out
 have hms36_2 := NB468_477.out
 have hs38 : w31.cell? ⟨gb468, 2, none⟩ = some (.slice none 0 0) := (zyk BK468.out 2).trans rfl
 have hfs38 := zyF BK468.out 2
 have hns38_0 := NB467_468.out
 have hns38_2 := NB477_468.out
 have hms38_0 := NB468_467.out
 have hms38_2 := NB468_477.out
 refine skip_ (w1 := ?_) (by rfl) rfl ?_ ?_
 rotate_left
 ·
  go_simp
  rfl
 refine hK.out _ _ ⟨((cell_far (p := ⟨gb468, _, none⟩) NB477_468.out _).trans (((cell_far (p := ⟨gb468, _, none⟩) NB477_468.out _).trans (((cell_far (p := ⟨gb468, _, none⟩) NB477_468.out _).trans (hHeld.1)))))), ((cell_far (p := ⟨gb468, _, none⟩) NB477_468.out _).trans (((cell_far (p := ⟨gb468, _, none⟩) NB477_468.out _).trans (((cell_far (p := ⟨gb468, _, none⟩) NB477_468.out _).trans (hHeld.2.1)))))), ((cell_far (p := ⟨gb468, _, none⟩) NB477_468.out _).trans (((cell_far (p := ⟨gb468, _, none⟩) NB477_468.out _).trans (((cell_far (p := ⟨gb468, _, none⟩) NB477_468.out _).trans (hHeld.2.2))))))⟩ (fun hHeld => ?_)
 clear hK K
 refine zP 16 (some 5) #[zt, zt, zt, zt, zt, zt, zt, zt, zt, zt, zt, zt, zt, zt, zt, zt, zt] ?_ rfl rfl HT_ (Or.inl ⟨by rfl, ?_⟩) ?_ ?_ ?_
 rotate_left; · exact zqB
 rotate_left; · exact zqA
 refine done_ (done_of HT_.out (by kernel_rfl)) ?_
 try go_wp2
 refine bodyPost_ret (results_list (rs := [.cell 2 26, .tmp 3, .cell 4 27, .tmp 5]) rfl (by simp) (.cell gb467 26 #[.int .i64 t470, .int .i64 t471, .slice Ao19 t472.length co19] (0, 0) _ rfl (by (with_reducible repeat (first | apply zN | apply zD | apply zL)); refine zye ?_ NB467_468.out _; (with_reducible repeat (first | apply zN | apply zD | apply zL)); refine zye ?_ NB467_468.out _; (with_reducible repeat (first | apply zN | apply zD | apply zL)); refine zye ?_ NB467_468.out _; (with_reducible repeat (first | apply zN | apply zD | apply zL)); refine blk_put (cs := #[.int .i64 t470, .int .i64 t471, .slice none 0 0]) ?_ 2 _ rfl; (with_reducible repeat (first | apply zN | apply zD | apply zL)); refine blk_put (cs := #[.int .i64 t470, .int .i64 0, .slice none 0 0]) ?_ 1 _ rfl; (with_reducible repeat (first | apply zN | apply zD | apply zL)); refine blk_put (cs := #[.int .i64 0, .int .i64 0, .slice none 0 0]) ?_ 0 _ rfl; (with_reducible repeat (first | apply zN | apply zD | apply zL)); exact BK467.out) Try.underlying26 rfl (by kernel_rfl) (.tmp (.cell gb468 27 #[.int .i64 t481, .int .i64 t482, .slice Ao37 t483.length co37] (0, 0) _ rfl (by (with_reducible repeat (first | apply zN | apply zD | apply zL)); refine blk_put (cs := #[.int .i64 t481, .int .i64 t482, .slice none 0 0]) ?_ 2 _ rfl; (with_reducible repeat (first | apply zN | apply zD | apply zL)); refine blk_put (cs := #[.int .i64 t481, .int .i64 0, .slice none 0 0]) ?_ 1 _ rfl; (with_reducible repeat (first | apply zN | apply zD | apply zL)); refine blk_put (cs := #[.int .i64 0, .int .i64 0, .slice none 0 0]) ?_ 0 _ rfl; (with_reducible repeat (first | apply zN | apply zD | apply zL)); refine zye ?_ NB468_467.out _; (with_reducible repeat (first | apply zN | apply zD | apply zL)); refine zye ?_ NB468_467.out _; (with_reducible repeat (first | apply zN | apply zD | apply zL)); refine zye ?_ NB468_467.out _; (with_reducible repeat (first | apply zN | apply zD | apply zL)); exact BK468.out) Try.underlying27 rfl (by kernel_rfl) (.tmp .nil))))) rfl ?_
 exact ⟨_, _, by first | rfl | (simp [errW_none, errW_some] <;> rfl) | (simp only [← hji6]; first | rfl | (simp [errW_none, errW_some] <;> rfl)) | (simp [*, errW_none, errW_some] <;> rfl), by (with_reducible repeat (first | apply Kd.R_alloc | apply Kd.R_drewN | apply Kd.R_drew)); exact Kd.R_mono (Kd.R_far (p := ⟨gb468, 2, none⟩) (Kd.R_far (p := ⟨gb468, 1, none⟩) (Kd.R_far (p := ⟨gb468, 0, none⟩) (Kd.R_far (p := ⟨gb467, 2, none⟩) (Kd.R_far (p := ⟨gb467, 1, none⟩) (Kd.R_far (p := ⟨gb467, 0, none⟩) (Kd.R_types (Kd.R_types HO474.out BK467.out (by decide)) BK468.out (by decide)) (fun _ hk => hk.1.2) (.int .i64 t470)) (fun _ hk => hk.1.2) (.int .i64 t471)) (fun _ hk => hk.1.2) (.slice Ao19 t472.length co19)) (fun _ hk => hk.2) (.int .i64 t481)) (fun _ hk => hk.2) (.int .i64 t482)) (fun _ hk => hk.2) (.slice Ao37 t483.length co37)) (fun _ hk => hk.1.1.1), by (with_reducible repeat (first | apply Kd.Q_alloc | apply Kd.Q_drewN | apply Kd.Q_drew)); exact Kd.Q_mono (Kd.Q_far (p := ⟨gb468, 2, none⟩) (Kd.Q_far (p := ⟨gb468, 1, none⟩) (Kd.Q_far (p := ⟨gb468, 0, none⟩) (Kd.Q_far (p := ⟨gb467, 2, none⟩) (Kd.Q_far (p := ⟨gb467, 1, none⟩) (Kd.Q_far (p := ⟨gb467, 0, none⟩) (Kd.Q_types (Kd.Q_types HO485.out BK467.out (by decide)) BK468.out (by decide)) (fun _ hk => hk.1.2) (.int .i64 t470)) (fun _ hk => hk.1.2) (.int .i64 t471)) (fun _ hk => hk.1.2) (.slice Ao19 t472.length co19)) (fun _ hk => hk.2) (.int .i64 t481)) (fun _ hk => hk.2) (.int .i64 t482)) (fun _ hk => hk.2) (.slice Ao37 t483.length co37)) (fun _ hk => hk.1.1.1), zq21⟩
end Go.Proofs.Ytfaihkhdbapjmaa.Q
