/- Texts of this claim, put together: walks of the program's functions, and plain facts. -/
import Derived.Test.YtleadjbfcenofaaGreatDoorZFnWarningTexts
import Derived.Test.YtleadjbfcenofaaGreatDoorBFnWarningTexts0
import Derived.Test.YtleadjbfcenofaaGreatDoorBFnWarningTexts2
namespace Go.Proofs.YtleadjbfcenofaaGreatDoor.Q
open Go.RowKit Go.Proofs.YtleadjbfcenofaaGreatDoorW.PrintWords Go.Proofs.YtleadjbfcenofaaGreatDoorW.PrintLast Go.Proofs.YtleadjbfcenofaaGreatDoorW.PrintMore
attribute [local go_sem] max2_int min2_int max_two min_two max_three min_three max_four min_four
set_option linter.unusedVariables false
set_option linter.unusedSimpArgs false
def spec_l14Meet.f (a0_0 : Int) (a0_1 : Int) (a0_2 : Int) (a0_3 : Int) (a0_4 : Int) (a0_5 : Int) (a1_0 : Int) (a1_1 : Int) (a1_2 : Int) (a1_3 : Int) (a1_4 : Int) (a1_5 : Int) : Option (Bool) := if a0_1 = a1_1 then (if a0_3 = a1_3 then (if a0_4 < a1_5 then (some (decide (a1_4 < a0_5))) else (some false)) else (some false)) else (some false)
set_option maxHeartbeats 8000000 in
set_option maxRecDepth 100000 in
theorem spec_l14Meet.calls (a0_0 : Int) (a0_1 : Int) (a0_2 : Int) (a0_3 : Int) (a0_4 : Int) (a0_5 : Int) (a1_0 : Int) (a1_1 : Int) (a1_2 : Int) (a1_3 : Int) (a1_4 : Int) (a1_5 : Int) (r : Bool) (w : World) (h : spec_l14Meet.f a0_0 a0_1 a0_2 a0_3 a0_4 a0_5 a1_0 a1_1 a1_2 a1_3 a1_4 a1_5 = some r) :
  Calls Tryz.prog 68 #[.agg #[.int .i64 a0_0, .int .i64 a0_1, .int .i64 a0_2, .int .i64 a0_3, .int .i64 a0_4, .int .i64 a0_5], .agg #[.int .i64 a1_0, .int .i64 a1_1, .int .i64 a1_2, .int .i64 a1_3, .int .i64 a1_4, .int .i64 a1_5]] w fun e w' => e = .returned (.bool r) ∧ Below w.heap.size w w' := by
 have hu25 := Tryz.underlying25
 have HB := zm (Below.refl w.heap.size w)
 have H : (if a0_1 = a1_1 then (if a0_3 = a1_3 then (if a0_4 < a1_5 then (some (decide (a1_4 < a0_5))) else (some false)) else (some false)) else (some false)) = some r := h
 clear h
 by_cases c3 : a0_1 = a1_1
 case neg =>
  rw [if_neg c3] at H
  have c3b0 : (a0_1 == a1_1) = false := beq_eq_false_iff_ne.mpr c3
  have c3b1 : (a0_1 != a1_1) = true := bne_iff_ne.mpr c3
  obtain rfl := Option.some.inj H
  go_enter Tryz.func68, Tryz.ntmps68
  go_wp2_with (first | ((with_reducible refine gate_dst (N := 2) rfl ?_); refine box_event ?hg (N := 2) ?hd (cs := #[.int .i64 a0_0, .int .i64 a0_1, .int .i64 a0_2, .int .i64 a0_3, .int .i64 a0_4, .int .i64 a0_5]) (t := 25) ?hr ?_; (case hd => rfl); (case hg => rfl); (case hr => exact zqS); intro gb344 hg w21 hbox hb; have BK344 := zm (hbox); have GW344 := zm ((by rw [hg]; exact (below_size zq0) : w.heap.size ≤ gb344)); replace HB := zm (below_step zq0 hb); have GE344 := GW344; clear hb hbox hg) | ((with_reducible refine gate_dst (N := 3) rfl ?_); refine box_event ?hg (N := 3) ?hd (cs := #[.int .i64 a1_0, .int .i64 a1_1, .int .i64 a1_2, .int .i64 a1_3, .int .i64 a1_4, .int .i64 a1_5]) (t := 25) ?hr ?_; (case hd => rfl); (case hg => rfl); (case hr => exact zqS); intro gb345 hg w22 hbox hb; have BK345 := zm (hbox); have GW345 := zm ((by rw [hg]; exact (below_size zq29) : w.heap.size ≤ gb345)); replace HB := zm (below_step zq29 hb); have GE345 := GW345; have NB344_345 := zm ((by rw [hg]; exact Nat.ne_of_lt (blk_lt (g := gb344) (o := .cells #[.int .i64 a0_0, .int .i64 a0_1, .int .i64 a0_2, .int .i64 a0_3, .int .i64 a0_4, .int .i64 a0_5] 25 (0, 0)) (zqK BK344.out)) : gb344 ≠ gb345)); have NB345_344 := zm ((by rw [hg]; exact Nat.ne_of_gt (blk_lt (g := gb344) (o := .cells #[.int .i64 a0_0, .int .i64 a0_1, .int .i64 a0_2, .int .i64 a0_3, .int .i64 a0_4, .int .i64 a0_5] 25 (0, 0)) (zqK BK344.out)) : gb345 ≠ gb344)); replace BK344 := zm (blk_below (g := gb344) (o := .cells #[.int .i64 a0_0, .int .i64 a0_1, .int .i64 a0_2, .int .i64 a0_3, .int .i64 a0_4, .int .i64 a0_5] 25 (0, 0)) (zqK BK344.out) hb); clear hb hbox hg; have hnb23 := NB344_345.out; have hnc23 := NB345_344.out; obtain ⟨hcz24_0, hcz24_1, hcz24_2, hcz24_3, hcz24_4, hcz24_5, hfz24_0, hfz24_1, hfz24_2, hfz24_3, hfz24_4, hfz24_5⟩ := bz6 BK344.out; obtain ⟨hcz25_0, hcz25_1, hcz25_2, hcz25_3, hcz25_4, hcz25_5, hfz25_0, hfz25_1, hfz25_2, hfz25_3, hfz25_4, hfz25_5⟩ := bz6 BK345.out))
  go_ret
  exact ⟨zqE, zq58⟩
 rw [if_pos c3] at H
 have c3b0 : (a0_1 == a1_1) = true := beq_iff_eq.mpr c3
 have c3b1 : (a0_1 != a1_1) = false := bne_eq_false_iff_eq.mpr c3
 clear c3
 by_cases c4 : a0_3 = a1_3
 case neg =>
  rw [if_neg c4] at H
  have c4b0 : (a0_3 == a1_3) = false := beq_eq_false_iff_ne.mpr c4
  have c4b1 : (a0_3 != a1_3) = true := bne_iff_ne.mpr c4
  obtain rfl := Option.some.inj H
  go_enter Tryz.func68, Tryz.ntmps68
  go_wp2_with (first | ((with_reducible refine gate_dst (N := 2) rfl ?_); refine box_event ?hg (N := 2) ?hd (cs := #[.int .i64 a0_0, .int .i64 a0_1, .int .i64 a0_2, .int .i64 a0_3, .int .i64 a0_4, .int .i64 a0_5]) (t := 25) ?hr ?_; (case hd => rfl); (case hg => rfl); (case hr => exact zqS); intro gb344 hg w16 hbox hb; have BK344 := zm (hbox); have GW344 := zm ((by rw [hg]; exact (below_size zq0) : w.heap.size ≤ gb344)); replace HB := zm (below_step zq0 hb); have GE344 := GW344; clear hb hbox hg) | ((with_reducible refine gate_dst (N := 3) rfl ?_); refine box_event ?hg (N := 3) ?hd (cs := #[.int .i64 a1_0, .int .i64 a1_1, .int .i64 a1_2, .int .i64 a1_3, .int .i64 a1_4, .int .i64 a1_5]) (t := 25) ?hr ?_; (case hd => rfl); (case hg => rfl); (case hr => exact zqS); intro gb345 hg w17 hbox hb; have BK345 := zm (hbox); have GW345 := zm ((by rw [hg]; exact (below_size zq29) : w.heap.size ≤ gb345)); replace HB := zm (below_step zq29 hb); have GE345 := GW345; have NB344_345 := zm ((by rw [hg]; exact Nat.ne_of_lt (blk_lt (g := gb344) (o := .cells #[.int .i64 a0_0, .int .i64 a0_1, .int .i64 a0_2, .int .i64 a0_3, .int .i64 a0_4, .int .i64 a0_5] 25 (0, 0)) (zqK BK344.out)) : gb344 ≠ gb345)); have NB345_344 := zm ((by rw [hg]; exact Nat.ne_of_gt (blk_lt (g := gb344) (o := .cells #[.int .i64 a0_0, .int .i64 a0_1, .int .i64 a0_2, .int .i64 a0_3, .int .i64 a0_4, .int .i64 a0_5] 25 (0, 0)) (zqK BK344.out)) : gb345 ≠ gb344)); replace BK344 := zm (blk_below (g := gb344) (o := .cells #[.int .i64 a0_0, .int .i64 a0_1, .int .i64 a0_2, .int .i64 a0_3, .int .i64 a0_4, .int .i64 a0_5] 25 (0, 0)) (zqK BK344.out) hb); clear hb hbox hg; have hnb18 := NB344_345.out; have hnc18 := NB345_344.out; obtain ⟨hcz19_0, hcz19_1, hcz19_2, hcz19_3, hcz19_4, hcz19_5, hfz19_0, hfz19_1, hfz19_2, hfz19_3, hfz19_4, hfz19_5⟩ := bz6 BK344.out; obtain ⟨hcz20_0, hcz20_1, hcz20_2, hcz20_3, hcz20_4, hcz20_5, hfz20_0, hfz20_1, hfz20_2, hfz20_3, hfz20_4, hfz20_5⟩ := bz6 BK345.out))
  go_ret
  exact ⟨zqE, zq58⟩
 rw [if_pos c4] at H
 have c4b0 : (a0_3 == a1_3) = true := beq_iff_eq.mpr c4
 have c4b1 : (a0_3 != a1_3) = false := bne_eq_false_iff_eq.mpr c4
 clear c4
 by_cases c5 : a0_4 < a1_5
 case neg =>
  rw [if_neg c5] at H
  have c5b0 : decide (a0_4 < a1_5) = false := decide_eq_false c5
  clear c5
  obtain rfl := Option.some.inj H
  go_enter Tryz.func68, Tryz.ntmps68
  go_wp2_with (first | ((with_reducible refine gate_dst (N := 2) rfl ?_); refine box_event ?hg (N := 2) ?hd (cs := #[.int .i64 a0_0, .int .i64 a0_1, .int .i64 a0_2, .int .i64 a0_3, .int .i64 a0_4, .int .i64 a0_5]) (t := 25) ?hr ?_; (case hd => rfl); (case hg => rfl); (case hr => exact zqS); intro gb344 hg w11 hbox hb; have BK344 := zm (hbox); have GW344 := zm ((by rw [hg]; exact (below_size zq0) : w.heap.size ≤ gb344)); replace HB := zm (below_step zq0 hb); have GE344 := GW344; clear hb hbox hg) | ((with_reducible refine gate_dst (N := 3) rfl ?_); refine box_event ?hg (N := 3) ?hd (cs := #[.int .i64 a1_0, .int .i64 a1_1, .int .i64 a1_2, .int .i64 a1_3, .int .i64 a1_4, .int .i64 a1_5]) (t := 25) ?hr ?_; (case hd => rfl); (case hg => rfl); (case hr => exact zqS); intro gb345 hg w12 hbox hb; have BK345 := zm (hbox); have GW345 := zm ((by rw [hg]; exact (below_size zq29) : w.heap.size ≤ gb345)); replace HB := zm (below_step zq29 hb); have GE345 := GW345; have NB344_345 := zm ((by rw [hg]; exact Nat.ne_of_lt (blk_lt (g := gb344) (o := .cells #[.int .i64 a0_0, .int .i64 a0_1, .int .i64 a0_2, .int .i64 a0_3, .int .i64 a0_4, .int .i64 a0_5] 25 (0, 0)) (zqK BK344.out)) : gb344 ≠ gb345)); have NB345_344 := zm ((by rw [hg]; exact Nat.ne_of_gt (blk_lt (g := gb344) (o := .cells #[.int .i64 a0_0, .int .i64 a0_1, .int .i64 a0_2, .int .i64 a0_3, .int .i64 a0_4, .int .i64 a0_5] 25 (0, 0)) (zqK BK344.out)) : gb345 ≠ gb344)); replace BK344 := zm (blk_below (g := gb344) (o := .cells #[.int .i64 a0_0, .int .i64 a0_1, .int .i64 a0_2, .int .i64 a0_3, .int .i64 a0_4, .int .i64 a0_5] 25 (0, 0)) (zqK BK344.out) hb); clear hb hbox hg; have hnb13 := NB344_345.out; have hnc13 := NB345_344.out; obtain ⟨hcz14_0, hcz14_1, hcz14_2, hcz14_3, hcz14_4, hcz14_5, hfz14_0, hfz14_1, hfz14_2, hfz14_3, hfz14_4, hfz14_5⟩ := bz6 BK344.out; obtain ⟨hcz15_0, hcz15_1, hcz15_2, hcz15_3, hcz15_4, hcz15_5, hfz15_0, hfz15_1, hfz15_2, hfz15_3, hfz15_4, hfz15_5⟩ := bz6 BK345.out))
  go_ret
  exact ⟨zqE, zq58⟩
 rw [if_pos c5] at H
 have c5b0 : decide (a0_4 < a1_5) = true := decide_eq_true c5
 clear c5
 obtain rfl := Option.some.inj H
 go_enter Tryz.func68, Tryz.ntmps68
 go_wp2_with (first | ((with_reducible refine gate_dst (N := 2) rfl ?_); refine box_event ?hg (N := 2) ?hd (cs := #[.int .i64 a0_0, .int .i64 a0_1, .int .i64 a0_2, .int .i64 a0_3, .int .i64 a0_4, .int .i64 a0_5]) (t := 25) ?hr ?_; (case hd => rfl); (case hg => rfl); (case hr => exact zqS); intro gb344 hg w6 hbox hb; have BK344 := zm (hbox); have GW344 := zm ((by rw [hg]; exact (below_size zq0) : w.heap.size ≤ gb344)); replace HB := zm (below_step zq0 hb); have GE344 := GW344; clear hb hbox hg) | ((with_reducible refine gate_dst (N := 3) rfl ?_); refine box_event ?hg (N := 3) ?hd (cs := #[.int .i64 a1_0, .int .i64 a1_1, .int .i64 a1_2, .int .i64 a1_3, .int .i64 a1_4, .int .i64 a1_5]) (t := 25) ?hr ?_; (case hd => rfl); (case hg => rfl); (case hr => exact zqS); intro gb345 hg w7 hbox hb; have BK345 := zm (hbox); have GW345 := zm ((by rw [hg]; exact (below_size zq29) : w.heap.size ≤ gb345)); replace HB := zm (below_step zq29 hb); have GE345 := GW345; have NB344_345 := zm ((by rw [hg]; exact Nat.ne_of_lt (blk_lt (g := gb344) (o := .cells #[.int .i64 a0_0, .int .i64 a0_1, .int .i64 a0_2, .int .i64 a0_3, .int .i64 a0_4, .int .i64 a0_5] 25 (0, 0)) (zqK BK344.out)) : gb344 ≠ gb345)); have NB345_344 := zm ((by rw [hg]; exact Nat.ne_of_gt (blk_lt (g := gb344) (o := .cells #[.int .i64 a0_0, .int .i64 a0_1, .int .i64 a0_2, .int .i64 a0_3, .int .i64 a0_4, .int .i64 a0_5] 25 (0, 0)) (zqK BK344.out)) : gb345 ≠ gb344)); replace BK344 := zm (blk_below (g := gb344) (o := .cells #[.int .i64 a0_0, .int .i64 a0_1, .int .i64 a0_2, .int .i64 a0_3, .int .i64 a0_4, .int .i64 a0_5] 25 (0, 0)) (zqK BK344.out) hb); clear hb hbox hg; have hnb8 := NB344_345.out; have hnc8 := NB345_344.out; obtain ⟨hcz9_0, hcz9_1, hcz9_2, hcz9_3, hcz9_4, hcz9_5, hfz9_0, hfz9_1, hfz9_2, hfz9_3, hfz9_4, hfz9_5⟩ := bz6 BK344.out; obtain ⟨hcz10_0, hcz10_1, hcz10_2, hcz10_3, hcz10_4, hcz10_5, hfz10_0, hfz10_1, hfz10_2, hfz10_3, hfz10_4, hfz10_5⟩ := bz6 BK345.out))
 go_ret
 exact ⟨zqE, zq58⟩
mutual
def spec_l14List.l0 : Nat → List (S25) → Int → Option (Bool)
 | 0, _, _ => none
 | k + 1, x0, x3 => if x3 < (x0.length : Int) then (if 0 ≤ x3 then ((spec_l14Good.f ((rd_T25 x0 x3).f0) ((rd_T25 x0 x3).f1) ((rd_T25 x0 x3).f2) ((rd_T25 x0 x3).f3) ((rd_T25 x0 x3).f4) ((rd_T25 x0 x3).f5)).bind fun t347 => (if t347 = true then (if x3 > 0 then (if 0 ≤ (wrap64 (x3 - 1)) then (if (wrap64 (x3 - 1)) < (x0.length : Int) then (spec_l14List.j1 k x0 x3 (decide (((rd_T25 x0 (wrap64 (x3 - 1))).f0) ≥ ((rd_T25 x0 x3).f0)))) else (none)) else (none)) else (spec_l14List.j1 k x0 x3 false)) else (spec_l14List.j1 k x0 x3 true))) else (none)) else (some true)
def spec_l14List.j1 : Nat → List (S25) → Int → Bool → Option (Bool)
 | 0, _, _, _ => none
 | k + 1, x0, x3, x37 => if x37 = true then (some false) else (spec_l14List.l1 k x0 x3 0)
def spec_l14List.l1 : Nat → List (S25) → Int → Int → Option (Bool)
 | 0, _, _, _ => none
 | k + 1, x0, x3, x4 => if x4 < x3 then (if 0 ≤ x4 then (if x4 < (x0.length : Int) then (if 0 ≤ x3 then (if x3 < (x0.length : Int) then ((spec_l14Meet.f ((rd_T25 x0 x4).f0) ((rd_T25 x0 x4).f1) ((rd_T25 x0 x4).f2) ((rd_T25 x0 x4).f3) ((rd_T25 x0 x4).f4) ((rd_T25 x0 x4).f5) ((rd_T25 x0 x3).f0) ((rd_T25 x0 x3).f1) ((rd_T25 x0 x3).f2) ((rd_T25 x0 x3).f3) ((rd_T25 x0 x3).f4) ((rd_T25 x0 x3).f5)).bind fun t352 => (if t352 = true then (some false) else (spec_l14List.l1 k x0 x3 (wrap64 (x4 + 1))))) else (none)) else (none)) else (none)) else (none)) else (spec_l14List.l0 k x0 (wrap64 (x3 + 1)))
end
def spec_l14List.f (k : Nat) (l0 : List (S25)) : Option (Bool) := if (l0.length : Int) > 12 then (some false) else (spec_l14List.l0 k l0 0)
def spec_l14List.T6 : Bool × List (List Nat × List Nat) := (true, [([], []), ([], []), ([0, 1], [0, 1]), ([2], [2]), ([3], [3]), ([4], [4]), ([5, 4], [5]), ([6], [6]), ([7, 6], [6, 7]), ([8, 6, 6], [6, 8]), ([9], [9]), ([9], [9]), ([11, 9], [9, 11]), ([10, 12, 9], [9, 10, 12]), ([13, 9], [9, 13]), ([14, 9], [9, 14]), ([9], [9]), ([9], [9]), ([16, 17, 9], [9, 16, 17]), ([18, 9], [9, 18]), ([19, 9], [9, 19]), ([15, 20, 9], [9, 15, 20]), ([9, 21, 6], [6, 9, 21]), ([6, 22], [6, 22])])
def spec_l14List.B6 : List Nat := [0, 0, 3, 7, 15, 31, 63, 127, 255, 511, 1023, 1023, 3071, 8191, 16383, 32767, 1023, 1023, 197631, 459775, 984063, 2097151, 4194303, 8388607]
theorem spec_l14List.tab6 : rtab .any (opsOf Tryz.f57 6) = spec_l14List.T6 := by kernel_rfl
theorem spec_l14List.bits6 : waitsOk spec_l14List.T6.2 spec_l14List.B6 = true := by kernel_rfl
def spec_l14List.T11 : Bool × List (List Nat × List Nat) := (true, [([], []), ([], []), ([0, 1], [0, 1]), ([2], [2]), ([], []), ([], []), ([4, 5], [4, 5]), ([6], [6]), ([3, 7], [3, 7])])
def spec_l14List.B11 : List Nat := [0, 0, 3, 7, 0, 0, 48, 112, 255]
theorem spec_l14List.tab11 : rtab .any (opsOf Tryz.f57 11) = spec_l14List.T11 := by kernel_rfl
theorem spec_l14List.bits11 : waitsOk spec_l14List.T11.2 spec_l14List.B11 = true := by kernel_rfl
set_option maxHeartbeats 8000000 in
set_option maxRecDepth 100000 in
theorem spec_l14List.calls (k : Nat) (A0 : Option Addr) (c0 : Nat) (l0 : List (S25)) (r : Bool) (w : World) (hr0 : Kd.C k25 w A0 l0.length l0) (hc0 : l0.length ≤ c0) (h : spec_l14List.f k l0 = some r) :
  Calls Tryz.prog 57 #[.slice A0 l0.length c0] w fun e w' => e = .returned (.bool r) ∧ Below w.heap.size w w' := by
 have hu25 := Tryz.underlying25
 have HR0 := zm hr0
 have HC0 := zm hc0
 clear hr0 hc0
 have HB := zm (Below.refl w.heap.size w)
 have H : (if (l0.length : Int) > 12 then (some false) else (spec_l14List.l0 k l0 0)) = some r := h
 clear h
 by_cases c2 : (l0.length : Int) > 12
 case pos =>
  rw [if_pos c2] at H
  have c2b0 : decide (12 < (l0.length : Int)) = true := decide_eq_true c2
  have c2b1 : decide (12 < l0.length) = true := decide_eq_true (by omega)
  clear c2
  obtain rfl := Option.some.inj H
  go_enter Tryz.func57, Tryz.ntmps57
  go_wp2
  go_ret
  exact ⟨zqE, zq0⟩
 rw [if_neg c2] at H
 have c2b0 : decide (12 < (l0.length : Int)) = false := decide_eq_false c2
 have c2b1 : decide (12 < l0.length) = false := decide_eq_false (by omega)
 clear c2
 have H' := zm H
 clear H
 go_enter Tryz.func57, Tryz.ntmps57
 go_wp2
 go_loopg [3] k (fun kq v3 w' => ∃ (x3_1 : Int), v3 = .int .i64 x3_1 ∧ Aside0 (spec_l14List.l0 kq l0 x3_1 = some r) ∧ Aside0 (kq ≤ k) ∧ Aside0 (Below w.heap.size w w'))
 case atStart => exact ⟨(0), (by first | rfl | (simp; done) | (simp [*]; done)), H', ⟨Nat.le_refl _⟩, ⟨zq0⟩⟩
 clear H'
 try clear c2
 try clear c2b0
 try clear c2b1
 try clear p2
 obtain ⟨x3_1, rfl, HA, HK1, HB⟩ := hrel
 cases gk with
 | zero => exact absurd HA.out (by simp [spec_l14List.l0])
 | succ k1 =>
  have H := HA.out
  clear HA
  simp only [spec_l14List.l0] at H
  by_cases c3 : x3_1 < (l0.length : Int)
  case neg =>
   rw [if_neg c3] at H
   have c3b0 : decide (x3_1 < (l0.length : Int)) = false := decide_eq_false c3
   clear c3
   obtain rfl := Option.some.inj H
   go_wp2
   go_ret
   exact ⟨zqE, zq0⟩
  rw [if_pos c3] at H
  have c3b0 : decide (x3_1 < (l0.length : Int)) = true := decide_eq_true c3
  clear c3
  have HC4 := zm H
  clear H
  go_upto_region 6 with (fail)
  go_cut [37] (fun v37 wc => ∃ (kq : Nat) (x37_3 : Bool), v37 = .bool x37_3 ∧ Aside0 (spec_l14List.j1 kq l0 x3_1 x37_3 = some r) ∧ Aside0 (kq ≤ k1) ∧ Aside0 (Below w.heap.size w wc))
  case first =>
   have H := HC4.out
   clear HC4
   by_cases c5 : 0 ≤ x3_1
   case neg =>
    rw [if_neg c5] at H
    exact absurd H (by simp)
   rw [if_pos c5] at H
   have c5b0 : decide (0 ≤ x3_1) = true := decide_eq_true c5
   clear c5
   (first | rw [c5b0] | (simp only [i64_w, i32_w]; rw [c5b0]) | skip)
   obtain ⟨t347, A60, H⟩ := zob H
   replace H : (if t347 = true then (if x3_1 > 0 then (if 0 ≤ (wrap64 (x3_1 - 1)) then (if (wrap64 (x3_1 - 1)) < (l0.length : Int) then (spec_l14List.j1 k1 l0 x3_1 (decide (((rd_T25 l0 (wrap64 (x3_1 - 1))).f0) ≥ ((rd_T25 l0 x3_1).f0)))) else (none)) else (none)) else (spec_l14List.j1 k1 l0 x3_1 false)) else (spec_l14List.j1 k1 l0 x3_1 true)) = some r := H
   have A6 := zm A60
   clear A60
   by_cases c7 : t347 = true
   case neg =>
    replace c7 := Bool.eq_false_iff.mpr c7
    subst c7
    have H1 : (spec_l14List.j1 k1 l0 x3_1 true) = some r := by rw [if_neg (show ¬ (false = true) by decide)] at H; exact H
    clear H
    have H := H1
    clear H1
    have H' := zm H
    clear H
    try go_wp2
    have n0_ := zm (below_drew1 HB.out)
    clear HB
    have HB := n0_
    clear n0_
    have p346 : 0 ≤ (x3_1 : Int) := of_decide_eq_true zq8
    have q346 : x3_1 < (l0.length : Int) := of_decide_eq_true zq8
    obtain ⟨ad346, e346, hx346_0, hx346_1, hx346_2, hx346_3, hx346_4, hx346_5⟩ := at_T25 HR0.out x3_1 p346 q346
    have hw346_5 := hx346_5
    have hw346_4 := hx346_4
    have hw346_3 := hx346_3
    have hw346_2 := hx346_2
    have hw346_1 := hx346_1
    have hw346_0 := hx346_0
    cases e346
    replace hx346_0 := bx HB.out hx346_0
    replace hx346_1 := bx HB.out hx346_1
    replace hx346_2 := bx HB.out hx346_2
    replace hx346_3 := bx HB.out hx346_3
    replace hx346_4 := bx HB.out hx346_4
    replace hx346_5 := bx HB.out hx346_5
    replace p346 := eq_true p346
    replace q346 := eq_true q346
    refine start_ (n := 24) (S := fun w' => w'.cell? (ad346.add ((x3_1).toNat * 6)) = some (.int .i64 ((rd_T25 l0 x3_1).f0)) ∧ w'.cell? ⟨(ad346.add ((x3_1).toNat * 6)).block, (ad346.add ((x3_1).toNat * 6)).off + 1, none⟩ = some (.int .i64 ((rd_T25 l0 x3_1).f1)) ∧ w'.cell? ⟨(ad346.add ((x3_1).toNat * 6)).block, (ad346.add ((x3_1).toNat * 6)).off + 2, none⟩ = some (.int .i64 ((rd_T25 l0 x3_1).f2)) ∧ w'.cell? ⟨(ad346.add ((x3_1).toNat * 6)).block, (ad346.add ((x3_1).toNat * 6)).off + 3, none⟩ = some (.int .i64 ((rd_T25 l0 x3_1).f3)) ∧ w'.cell? ⟨(ad346.add ((x3_1).toNat * 6)).block, (ad346.add ((x3_1).toNat * 6)).off + 4, none⟩ = some (.int .i64 ((rd_T25 l0 x3_1).f4)) ∧ w'.cell? ⟨(ad346.add ((x3_1).toNat * 6)).block, (ad346.add ((x3_1).toNat * 6)).off + 5, none⟩ = some (.int .i64 ((rd_T25 l0 x3_1).f5))) (ds := []) #[zf, zf, zf, zf, zf, zf, zf, zf, zf, zf, zf, zf, zf, zf, zf, zf, zf, zf, zf, zf, zf, zf, zf, zf] (by kernel_rfl) rfl rfl ⟨(zx HB.out hw346_0), (zx HB.out hw346_1), (zx HB.out hw346_2), (zx HB.out hw346_3), (zx HB.out hw346_4), (zx HB.out hw346_5)⟩ (fun hHeld => ?_); refine with_tabW spec_l14List.tab6 spec_l14List.bits6 (fun HT_ HW_ => ?_)
    generalize wr.drew = w16 at HB hx346_0 hx346_1 hx346_2 hx346_3 hx346_4 hx346_5 hHeld ⊢
    refine zP 0 (some 14) #[zt, zf, zf, zf, zf, zf, zf, zf, zf, zf, zf, zf, zf, zf, zf, zf, zf, zf, zf, zf, zf, zf, zf, zf] ?_ rfl rfl HT_ (Or.inl ⟨by rfl, ?_⟩) ?_ ?_ ?_
    rotate_left; · exact zqB
    rotate_left; · exact zqA
    refine zP 1 (some 15) #[zt, zt, zf, zf, zf, zf, zf, zf, zf, zf, zf, zf, zf, zf, zf, zf, zf, zf, zf, zf, zf, zf, zf, zf] ?_ rfl rfl HT_ (Or.inl ⟨by rfl, ?_⟩) ?_ ?_ ?_
    rotate_left; · exact zqB
    rotate_left; · exact zqA
    refine zP 2 (some 16) #[zt, zt, zt, zf, zf, zf, zf, zf, zf, zf, zf, zf, zf, zf, zf, zf, zf, zf, zf, zf, zf, zf, zf, zf] ?_ rfl rfl HT_ (Or.inl ⟨by rfl, ?_⟩) ?_ ?_ ?_
    rotate_left; · exact zqB
    rotate_left; · exact zqA
    refine zT 3 (some 17) #[zt, zt, zt, zt, zf, zf, zf, zf, zf, zf, zf, zf, zf, zf, zf, zf, zf, zf, zf, zf, zf, zf, zf, zf] ?_ rfl rfl HT_ HW_ (Or.inl ⟨by rfl, ?_⟩) hHeld ?_ ?_ ?_
    rotate_left
    ·
     rintro w' ⟨s0, s1, s2, s3, s4, s5⟩
     go_simp
     with_reducible rfl
    rotate_left; · exact zqA
    refine one_ (i := 4) (N := some 18) #[zt, zt, zt, zt, zt, zf, zf, zf, zf, zf, zf, zf, zf, zf, zf, zf, zf, zf, zf, zf, zf, zf, zf, zf] rfl rfl (one_of HT_.out (by kernel_rfl)) (by decide) (fun K hK => ?_)
    refine goes_ Tryz.func25 (by kernel_rfl) rfl #[.agg #[.int .i64 ((rd_T25 l0 x3_1).f0), .int .i64 ((rd_T25 l0 x3_1).f1), .int .i64 ((rd_T25 l0 x3_1).f2), .int .i64 ((rd_T25 l0 x3_1).f3), .int .i64 ((rd_T25 l0 x3_1).f4), .int .i64 ((rd_T25 l0 x3_1).f5)]] (by rfl) rfl rfl zq1 ?_
    with_reducible refine (spec_l14Good.calls ((rd_T25 l0 x3_1).f0) ((rd_T25 l0 x3_1).f1) ((rd_T25 l0 x3_1).f2) ((rd_T25 l0 x3_1).f3) ((rd_T25 l0 x3_1).f4) ((rd_T25 l0 x3_1).f5) false _ A6.out).mono ?_
    rintro e w17 ⟨rfl, hb⟩
    refine ⟨_, rfl, ?_⟩
    have n0_ := zm (below_step zq0 hb)
    clear HB
    have HB := n0_
    clear n0_
    (try clear hb)
    (try clear hb2)
    (try clear hk)
    (try clear hi)
    refine hK.out _ _ ⟨(zx HB.out hw346_0), (zx HB.out hw346_1), (zx HB.out hw346_2), (zx HB.out hw346_3), (zx HB.out hw346_4), (zx HB.out hw346_5)⟩ (fun hHeld => ?_)
    clear hK K
    refine norm_ (a' := ?_) ?_ ?_
    rotate_left
    ·
     show Act.put _ (some 18) _ = _
     simp only [Act.put, List.setIfInBounds_toArray, List.set_cons_zero, List.set_cons_succ, i64_w, i32_w]
     rfl
    refine zP 5 (some 19) #[zt, zt, zt, zt, zt, zt, zf, zf, zf, zf, zf, zf, zf, zf, zf, zf, zf, zf, zf, zf, zf, zf, zf, zf] ?_ rfl rfl HT_ (Or.inl ⟨by rfl, ?_⟩) ?_ ?_ ?_
    rotate_left; · exact zqB
    rotate_left; · exact zqA
    refine zP 6 (some 20) #[zt, zt, zt, zt, zt, zt, zt, zf, zf, zf, zf, zf, zf, zf, zf, zf, zf, zf, zf, zf, zf, zf, zf, zf] ?_ rfl rfl HT_ (Or.inl ⟨by rfl, ?_⟩) ?_ ?_ ?_
    rotate_left; · exact zqB
    rotate_left; · exact zqA
    refine pure_ (i := 7) (N := some 21) (v := undef) (a' := ?_) #[zt, zt, zt, zt, zt, zt, zt, zt, zf, zf, zf, zf, zf, zf, zf, zf, zf, zf, zf, zf, zf, zf, zf, zf] rfl rfl (any_of HT_.out (by kernel_rfl)) (fun _ _ _ h => h) (Or.inr ⟨by rfl, rfl⟩) ?_ ?_
    rotate_left; · exact zqA
    refine pure_ (i := 8) (N := some 22) (v := undef) (a' := ?_) #[zt, zt, zt, zt, zt, zt, zt, zt, zt, zf, zf, zf, zf, zf, zf, zf, zf, zf, zf, zf, zf, zf, zf, zf] rfl rfl (any_of HT_.out (by kernel_rfl)) (fun _ _ _ h => h) (Or.inr ⟨by rfl, rfl⟩) ?_ ?_
    rotate_left; · exact zqA
    refine pure_ (i := 9) (N := some 23) (v := undef) (a' := ?_) #[zt, zt, zt, zt, zt, zt, zt, zt, zt, zt, zf, zf, zf, zf, zf, zf, zf, zf, zf, zf, zf, zf, zf, zf] rfl rfl (any_of HT_.out (by kernel_rfl)) (fun _ _ _ h => h) (Or.inr ⟨by rfl, rfl⟩) ?_ ?_
    rotate_left; · exact zqA
    refine pure_ (i := 10) (N := some 24) (v := undef) (a' := ?_) #[zt, zt, zt, zt, zt, zt, zt, zt, zt, zt, zt, zf, zf, zf, zf, zf, zf, zf, zf, zf, zf, zf, zf, zf] rfl rfl (any_of HT_.out (by kernel_rfl)) (fun _ _ _ h => h) (Or.inr ⟨by rfl, rfl⟩) ?_ ?_
    rotate_left; · exact zqA
    refine pure_ (i := 11) (N := some 25) (v := undef) (a' := ?_) #[zt, zt, zt, zt, zt, zt, zt, zt, zt, zt, zt, zt, zf, zf, zf, zf, zf, zf, zf, zf, zf, zf, zf, zf] rfl rfl (any_of HT_.out (by kernel_rfl)) (fun _ _ _ h => h) (Or.inr ⟨by rfl, rfl⟩) ?_ ?_
    rotate_left; · exact zqA
    refine pure_ (i := 12) (N := some 26) (v := undef) (a' := ?_) #[zt, zt, zt, zt, zt, zt, zt, zt, zt, zt, zt, zt, zt, zf, zf, zf, zf, zf, zf, zf, zf, zf, zf, zf] rfl rfl (any_of HT_.out (by kernel_rfl)) (fun _ _ _ h => h) (Or.inr ⟨by rfl, rfl⟩) ?_ ?_
    rotate_left; · exact zqA
    refine pure_ (i := 13) (N := some 27) (v := undef) (a' := ?_) #[zt, zt, zt, zt, zt, zt, zt, zt, zt, zt, zt, zt, zt, zt, zf, zf, zf, zf, zf, zf, zf, zf, zf, zf] rfl rfl (any_of HT_.out (by kernel_rfl)) (fun _ _ _ h => h) (Or.inr ⟨by rfl, rfl⟩) ?_ ?_
    rotate_left; · exact zqA
    refine pure_ (i := 14) (N := some 28) (v := undef) (a' := ?_) #[zt, zt, zt, zt, zt, zt, zt, zt, zt, zt, zt, zt, zt, zt, zt, zf, zf, zf, zf, zf, zf, zf, zf, zf] rfl rfl (any_of HT_.out (by kernel_rfl)) (fun _ _ _ h => h) (Or.inr ⟨by rfl, rfl⟩) ?_ ?_
    rotate_left; · exact zqA
    refine pure_ (i := 15) (N := some 29) (v := undef) (a' := ?_) #[zt, zt, zt, zt, zt, zt, zt, zt, zt, zt, zt, zt, zt, zt, zt, zt, zf, zf, zf, zf, zf, zf, zf, zf] rfl rfl (any_of HT_.out (by kernel_rfl)) (fun _ _ _ h => h) (Or.inr ⟨by rfl, rfl⟩) ?_ ?_
    rotate_left; · exact zqA
    refine pure_ (i := 16) (N := some 30) (v := undef) (a' := ?_) #[zt, zt, zt, zt, zt, zt, zt, zt, zt, zt, zt, zt, zt, zt, zt, zt, zt, zf, zf, zf, zf, zf, zf, zf] rfl rfl (any_of HT_.out (by kernel_rfl)) (fun _ _ _ h => h) (Or.inr ⟨by rfl, rfl⟩) ?_ ?_
    rotate_left; · exact zqA
    refine pure_ (i := 17) (N := some 31) (v := undef) (a' := ?_) #[zt, zt, zt, zt, zt, zt, zt, zt, zt, zt, zt, zt, zt, zt, zt, zt, zt, zt, zf, zf, zf, zf, zf, zf] rfl rfl (any_of HT_.out (by kernel_rfl)) (fun _ _ _ h => h) (Or.inr ⟨by rfl, rfl⟩) ?_ ?_
    rotate_left; · exact zqA
    refine pure_ (i := 18) (N := some 32) (v := undef) (a' := ?_) #[zt, zt, zt, zt, zt, zt, zt, zt, zt, zt, zt, zt, zt, zt, zt, zt, zt, zt, zt, zf, zf, zf, zf, zf] rfl rfl (any_of HT_.out (by kernel_rfl)) (fun _ _ _ h => h) (Or.inr ⟨by rfl, rfl⟩) ?_ ?_
    rotate_left; · exact zqA
    refine pure_ (i := 19) (N := some 33) (v := undef) (a' := ?_) #[zt, zt, zt, zt, zt, zt, zt, zt, zt, zt, zt, zt, zt, zt, zt, zt, zt, zt, zt, zt, zf, zf, zf, zf] rfl rfl (any_of HT_.out (by kernel_rfl)) (fun _ _ _ h => h) (Or.inr ⟨by rfl, rfl⟩) ?_ ?_
    rotate_left; · exact zqA
    refine pure_ (i := 20) (N := some 34) (v := undef) (a' := ?_) #[zt, zt, zt, zt, zt, zt, zt, zt, zt, zt, zt, zt, zt, zt, zt, zt, zt, zt, zt, zt, zt, zf, zf, zf] rfl rfl (any_of HT_.out (by kernel_rfl)) (fun _ _ _ h => h) (Or.inr ⟨by rfl, rfl⟩) ?_ ?_
    rotate_left; · exact zqA
    refine pure_ (i := 21) (N := some 35) (v := undef) (a' := ?_) #[zt, zt, zt, zt, zt, zt, zt, zt, zt, zt, zt, zt, zt, zt, zt, zt, zt, zt, zt, zt, zt, zt, zf, zf] rfl rfl (any_of HT_.out (by kernel_rfl)) (fun _ _ _ h => h) (Or.inr ⟨by rfl, rfl⟩) ?_ ?_
    rotate_left; · exact zqA
    refine pure_ (i := 22) (N := some 36) (v := undef) (a' := ?_) #[zt, zt, zt, zt, zt, zt, zt, zt, zt, zt, zt, zt, zt, zt, zt, zt, zt, zt, zt, zt, zt, zt, zt, zf] rfl rfl (any_of HT_.out (by kernel_rfl)) (fun _ _ _ h => h) (Or.inr ⟨by rfl, rfl⟩) ?_ ?_
    rotate_left; · exact zqA
    refine zP 23 (some 37) #[zt, zt, zt, zt, zt, zt, zt, zt, zt, zt, zt, zt, zt, zt, zt, zt, zt, zt, zt, zt, zt, zt, zt, zt] ?_ rfl rfl HT_ (Or.inl ⟨by rfl, ?_⟩) ?_ ?_ ?_
    rotate_left; · exact zqB
    rotate_left; · exact zqA
    refine done_ (done_of HT_.out (by kernel_rfl)) ?_
    try go_wp2
    go_meet
    case rel => exact ⟨_, (true), (by first | rfl | (simp; done) | (simp [*]; done)), H', ⟨by have := HK1.out; first | omega | exact Nat.le_refl _⟩, ⟨zq0⟩⟩
   subst c7
   have H1 : (if x3_1 > 0 then (if 0 ≤ (wrap64 (x3_1 - 1)) then (if (wrap64 (x3_1 - 1)) < (l0.length : Int) then (spec_l14List.j1 k1 l0 x3_1 (decide (((rd_T25 l0 (wrap64 (x3_1 - 1))).f0) ≥ ((rd_T25 l0 x3_1).f0)))) else (none)) else (none)) else (spec_l14List.j1 k1 l0 x3_1 false)) = some r := by rw [if_pos rfl] at H; exact H
   clear H
   have H := H1
   clear H1
   by_cases c8 : x3_1 > 0
   case neg =>
    rw [if_neg c8] at H
    have c8b0 : decide (0 < x3_1) = false := decide_eq_false c8
    clear c8
    have H' := zm H
    clear H
    try go_wp2
    have n0_ := zm (below_drew1 HB.out)
    clear HB
    have HB := n0_
    clear n0_
    have p346 : 0 ≤ (x3_1 : Int) := of_decide_eq_true zq8
    have q346 : x3_1 < (l0.length : Int) := of_decide_eq_true zq8
    obtain ⟨ad346, e346, hx346_0, hx346_1, hx346_2, hx346_3, hx346_4, hx346_5⟩ := at_T25 HR0.out x3_1 p346 q346
    have hw346_5 := hx346_5
    have hw346_4 := hx346_4
    have hw346_3 := hx346_3
    have hw346_2 := hx346_2
    have hw346_1 := hx346_1
    have hw346_0 := hx346_0
    cases e346
    replace hx346_0 := bx HB.out hx346_0
    replace hx346_1 := bx HB.out hx346_1
    replace hx346_2 := bx HB.out hx346_2
    replace hx346_3 := bx HB.out hx346_3
    replace hx346_4 := bx HB.out hx346_4
    replace hx346_5 := bx HB.out hx346_5
    replace p346 := eq_true p346
    replace q346 := eq_true q346
    refine start_ (n := 24) (S := fun w' => w'.cell? (ad346.add ((x3_1).toNat * 6)) = some (.int .i64 ((rd_T25 l0 x3_1).f0)) ∧ w'.cell? ⟨(ad346.add ((x3_1).toNat * 6)).block, (ad346.add ((x3_1).toNat * 6)).off + 1, none⟩ = some (.int .i64 ((rd_T25 l0 x3_1).f1)) ∧ w'.cell? ⟨(ad346.add ((x3_1).toNat * 6)).block, (ad346.add ((x3_1).toNat * 6)).off + 2, none⟩ = some (.int .i64 ((rd_T25 l0 x3_1).f2)) ∧ w'.cell? ⟨(ad346.add ((x3_1).toNat * 6)).block, (ad346.add ((x3_1).toNat * 6)).off + 3, none⟩ = some (.int .i64 ((rd_T25 l0 x3_1).f3)) ∧ w'.cell? ⟨(ad346.add ((x3_1).toNat * 6)).block, (ad346.add ((x3_1).toNat * 6)).off + 4, none⟩ = some (.int .i64 ((rd_T25 l0 x3_1).f4)) ∧ w'.cell? ⟨(ad346.add ((x3_1).toNat * 6)).block, (ad346.add ((x3_1).toNat * 6)).off + 5, none⟩ = some (.int .i64 ((rd_T25 l0 x3_1).f5))) (ds := []) #[zf, zf, zf, zf, zf, zf, zf, zf, zf, zf, zf, zf, zf, zf, zf, zf, zf, zf, zf, zf, zf, zf, zf, zf] (by kernel_rfl) rfl rfl ⟨(zx HB.out hw346_0), (zx HB.out hw346_1), (zx HB.out hw346_2), (zx HB.out hw346_3), (zx HB.out hw346_4), (zx HB.out hw346_5)⟩ (fun hHeld => ?_); refine with_tabW spec_l14List.tab6 spec_l14List.bits6 (fun HT_ HW_ => ?_)
    generalize wr.drew = w14 at HB hx346_0 hx346_1 hx346_2 hx346_3 hx346_4 hx346_5 hHeld ⊢
    refine zP 0 (some 14) #[zt, zf, zf, zf, zf, zf, zf, zf, zf, zf, zf, zf, zf, zf, zf, zf, zf, zf, zf, zf, zf, zf, zf, zf] ?_ rfl rfl HT_ (Or.inl ⟨by rfl, ?_⟩) ?_ ?_ ?_
    rotate_left; · exact zqB
    rotate_left; · exact zqA
    refine zP 1 (some 15) #[zt, zt, zf, zf, zf, zf, zf, zf, zf, zf, zf, zf, zf, zf, zf, zf, zf, zf, zf, zf, zf, zf, zf, zf] ?_ rfl rfl HT_ (Or.inl ⟨by rfl, ?_⟩) ?_ ?_ ?_
    rotate_left; · exact zqB
    rotate_left; · exact zqA
    refine zP 2 (some 16) #[zt, zt, zt, zf, zf, zf, zf, zf, zf, zf, zf, zf, zf, zf, zf, zf, zf, zf, zf, zf, zf, zf, zf, zf] ?_ rfl rfl HT_ (Or.inl ⟨by rfl, ?_⟩) ?_ ?_ ?_
    rotate_left; · exact zqB
    rotate_left; · exact zqA
    refine zT 3 (some 17) #[zt, zt, zt, zt, zf, zf, zf, zf, zf, zf, zf, zf, zf, zf, zf, zf, zf, zf, zf, zf, zf, zf, zf, zf] ?_ rfl rfl HT_ HW_ (Or.inl ⟨by rfl, ?_⟩) hHeld ?_ ?_ ?_
    rotate_left
    ·
     rintro w' ⟨s0, s1, s2, s3, s4, s5⟩
     go_simp
     with_reducible rfl
    rotate_left; · exact zqA
    refine one_ (i := 4) (N := some 18) #[zt, zt, zt, zt, zt, zf, zf, zf, zf, zf, zf, zf, zf, zf, zf, zf, zf, zf, zf, zf, zf, zf, zf, zf] rfl rfl (one_of HT_.out (by kernel_rfl)) (by decide) (fun K hK => ?_)
    refine goes_ Tryz.func25 (by kernel_rfl) rfl #[.agg #[.int .i64 ((rd_T25 l0 x3_1).f0), .int .i64 ((rd_T25 l0 x3_1).f1), .int .i64 ((rd_T25 l0 x3_1).f2), .int .i64 ((rd_T25 l0 x3_1).f3), .int .i64 ((rd_T25 l0 x3_1).f4), .int .i64 ((rd_T25 l0 x3_1).f5)]] (by rfl) rfl rfl zq1 ?_
    with_reducible refine (spec_l14Good.calls ((rd_T25 l0 x3_1).f0) ((rd_T25 l0 x3_1).f1) ((rd_T25 l0 x3_1).f2) ((rd_T25 l0 x3_1).f3) ((rd_T25 l0 x3_1).f4) ((rd_T25 l0 x3_1).f5) true _ A6.out).mono ?_
    rintro e w15 ⟨rfl, hb⟩
    refine ⟨_, rfl, ?_⟩
    have n0_ := zm (below_step zq0 hb)
    clear HB
    have HB := n0_
    clear n0_
    (try clear hb)
    (try clear hb2)
    (try clear hk)
    (try clear hi)
    refine hK.out _ _ ⟨(zx HB.out hw346_0), (zx HB.out hw346_1), (zx HB.out hw346_2), (zx HB.out hw346_3), (zx HB.out hw346_4), (zx HB.out hw346_5)⟩ (fun hHeld => ?_)
    clear hK K
    refine norm_ (a' := ?_) ?_ ?_
    rotate_left
    ·
     show Act.put _ (some 18) _ = _
     simp only [Act.put, List.setIfInBounds_toArray, List.set_cons_zero, List.set_cons_succ, i64_w, i32_w]
     rfl
    refine zP 5 (some 19) #[zt, zt, zt, zt, zt, zt, zf, zf, zf, zf, zf, zf, zf, zf, zf, zf, zf, zf, zf, zf, zf, zf, zf, zf] ?_ rfl rfl HT_ (Or.inl ⟨by rfl, ?_⟩) ?_ ?_ ?_
    rotate_left; · exact zqB
    rotate_left; · exact zqA
    refine zP 6 (some 20) #[zt, zt, zt, zt, zt, zt, zt, zf, zf, zf, zf, zf, zf, zf, zf, zf, zf, zf, zf, zf, zf, zf, zf, zf] ?_ rfl rfl HT_ (Or.inl ⟨by rfl, ?_⟩) ?_ ?_ ?_
    rotate_left; · exact zqB
    rotate_left; · exact zqA
    refine zP 7 (some 21) #[zt, zt, zt, zt, zt, zt, zt, zt, zf, zf, zf, zf, zf, zf, zf, zf, zf, zf, zf, zf, zf, zf, zf, zf] ?_ rfl rfl HT_ (Or.inl ⟨by rfl, ?_⟩) ?_ ?_ ?_
    rotate_left; · exact zqB
    rotate_left; · exact zqA
    refine zP 8 (some 22) #[zt, zt, zt, zt, zt, zt, zt, zt, zt, zf, zf, zf, zf, zf, zf, zf, zf, zf, zf, zf, zf, zf, zf, zf] ?_ rfl rfl HT_ (Or.inl ⟨by rfl, ?_⟩) ?_ ?_ ?_
    rotate_left; · exact zqB
    rotate_left; · exact zqA
    refine zP 9 (some 23) #[zt, zt, zt, zt, zt, zt, zt, zt, zt, zt, zf, zf, zf, zf, zf, zf, zf, zf, zf, zf, zf, zf, zf, zf] ?_ rfl rfl HT_ (Or.inl ⟨by rfl, ?_⟩) ?_ ?_ ?_
    rotate_left; · exact zqB
    rotate_left; · exact zqA
    refine pure_ (i := 10) (N := some 24) (v := undef) (a' := ?_) #[zt, zt, zt, zt, zt, zt, zt, zt, zt, zt, zt, zf, zf, zf, zf, zf, zf, zf, zf, zf, zf, zf, zf, zf] rfl rfl (any_of HT_.out (by kernel_rfl)) (fun _ _ _ h => h) (Or.inr ⟨by rfl, rfl⟩) ?_ ?_
    rotate_left; · exact zqA
    refine pure_ (i := 11) (N := some 25) (v := undef) (a' := ?_) #[zt, zt, zt, zt, zt, zt, zt, zt, zt, zt, zt, zt, zf, zf, zf, zf, zf, zf, zf, zf, zf, zf, zf, zf] rfl rfl (any_of HT_.out (by kernel_rfl)) (fun _ _ _ h => h) (Or.inr ⟨by rfl, rfl⟩) ?_ ?_
    rotate_left; · exact zqA
    refine pure_ (i := 12) (N := some 26) (v := undef) (a' := ?_) #[zt, zt, zt, zt, zt, zt, zt, zt, zt, zt, zt, zt, zt, zf, zf, zf, zf, zf, zf, zf, zf, zf, zf, zf] rfl rfl (any_of HT_.out (by kernel_rfl)) (fun _ _ _ h => h) (Or.inr ⟨by rfl, rfl⟩) ?_ ?_
    rotate_left; · exact zqA
    refine pure_ (i := 13) (N := some 27) (v := undef) (a' := ?_) #[zt, zt, zt, zt, zt, zt, zt, zt, zt, zt, zt, zt, zt, zt, zf, zf, zf, zf, zf, zf, zf, zf, zf, zf] rfl rfl (any_of HT_.out (by kernel_rfl)) (fun _ _ _ h => h) (Or.inr ⟨by rfl, rfl⟩) ?_ ?_
    rotate_left; · exact zqA
    refine pure_ (i := 14) (N := some 28) (v := undef) (a' := ?_) #[zt, zt, zt, zt, zt, zt, zt, zt, zt, zt, zt, zt, zt, zt, zt, zf, zf, zf, zf, zf, zf, zf, zf, zf] rfl rfl (any_of HT_.out (by kernel_rfl)) (fun _ _ _ h => h) (Or.inr ⟨by rfl, rfl⟩) ?_ ?_
    rotate_left; · exact zqA
    refine pure_ (i := 15) (N := some 29) (v := undef) (a' := ?_) #[zt, zt, zt, zt, zt, zt, zt, zt, zt, zt, zt, zt, zt, zt, zt, zt, zf, zf, zf, zf, zf, zf, zf, zf] rfl rfl (any_of HT_.out (by kernel_rfl)) (fun _ _ _ h => h) (Or.inr ⟨by rfl, rfl⟩) ?_ ?_
    rotate_left; · exact zqA
    refine pure_ (i := 16) (N := some 30) (v := undef) (a' := ?_) #[zt, zt, zt, zt, zt, zt, zt, zt, zt, zt, zt, zt, zt, zt, zt, zt, zt, zf, zf, zf, zf, zf, zf, zf] rfl rfl (any_of HT_.out (by kernel_rfl)) (fun _ _ _ h => h) (Or.inr ⟨by rfl, rfl⟩) ?_ ?_
    rotate_left; · exact zqA
    refine pure_ (i := 17) (N := some 31) (v := undef) (a' := ?_) #[zt, zt, zt, zt, zt, zt, zt, zt, zt, zt, zt, zt, zt, zt, zt, zt, zt, zt, zf, zf, zf, zf, zf, zf] rfl rfl (any_of HT_.out (by kernel_rfl)) (fun _ _ _ h => h) (Or.inr ⟨by rfl, rfl⟩) ?_ ?_
    rotate_left; · exact zqA
    refine pure_ (i := 18) (N := some 32) (v := undef) (a' := ?_) #[zt, zt, zt, zt, zt, zt, zt, zt, zt, zt, zt, zt, zt, zt, zt, zt, zt, zt, zt, zf, zf, zf, zf, zf] rfl rfl (any_of HT_.out (by kernel_rfl)) (fun _ _ _ h => h) (Or.inr ⟨by rfl, rfl⟩) ?_ ?_
    rotate_left; · exact zqA
    refine pure_ (i := 19) (N := some 33) (v := undef) (a' := ?_) #[zt, zt, zt, zt, zt, zt, zt, zt, zt, zt, zt, zt, zt, zt, zt, zt, zt, zt, zt, zt, zf, zf, zf, zf] rfl rfl (any_of HT_.out (by kernel_rfl)) (fun _ _ _ h => h) (Or.inr ⟨by rfl, rfl⟩) ?_ ?_
    rotate_left; · exact zqA
    refine pure_ (i := 20) (N := some 34) (v := undef) (a' := ?_) #[zt, zt, zt, zt, zt, zt, zt, zt, zt, zt, zt, zt, zt, zt, zt, zt, zt, zt, zt, zt, zt, zf, zf, zf] rfl rfl (any_of HT_.out (by kernel_rfl)) (fun _ _ _ h => h) (Or.inr ⟨by rfl, rfl⟩) ?_ ?_
    rotate_left; · exact zqA
    refine pure_ (i := 21) (N := some 35) (v := undef) (a' := ?_) #[zt, zt, zt, zt, zt, zt, zt, zt, zt, zt, zt, zt, zt, zt, zt, zt, zt, zt, zt, zt, zt, zt, zf, zf] rfl rfl (any_of HT_.out (by kernel_rfl)) (fun _ _ _ h => h) (Or.inr ⟨by rfl, rfl⟩) ?_ ?_
    rotate_left; · exact zqA
    refine zP 22 (some 36) #[zt, zt, zt, zt, zt, zt, zt, zt, zt, zt, zt, zt, zt, zt, zt, zt, zt, zt, zt, zt, zt, zt, zt, zf] ?_ rfl rfl HT_ (Or.inl ⟨by rfl, ?_⟩) ?_ ?_ ?_
    rotate_left; · exact zqB
    rotate_left; · exact zqA
    refine zP 23 (some 37) #[zt, zt, zt, zt, zt, zt, zt, zt, zt, zt, zt, zt, zt, zt, zt, zt, zt, zt, zt, zt, zt, zt, zt, zt] ?_ rfl rfl HT_ (Or.inl ⟨by rfl, ?_⟩) ?_ ?_ ?_
    rotate_left; · exact zqB
    rotate_left; · exact zqA
    refine done_ (done_of HT_.out (by kernel_rfl)) ?_
    try go_wp2
    go_meet
    case rel => exact ⟨_, (false), (by first | rfl | (simp; done) | (simp [*]; done)), H', ⟨by have := HK1.out; first | omega | exact Nat.le_refl _⟩, ⟨zq0⟩⟩
   rw [if_pos c8] at H
   have c8b0 : decide (0 < x3_1) = true := decide_eq_true c8
   clear c8
   obtain ⟨ji9, hji9⟩ : ∃ j_ : Int, (wrap64 (x3_1 - 1)) = j_ := ⟨_, rfl⟩
   replace H : (if 0 ≤ (ji9) then (if (ji9) < (l0.length : Int) then (spec_l14List.j1 k1 l0 x3_1 (decide (((rd_T25 l0 (ji9)).f0) ≥ ((rd_T25 l0 x3_1).f0)))) else (none)) else (none)) = some r := by first | (rw [hji9] at H; exact H) | (simp only [hji9] at H ⊢; exact H)
   (try rw [hji9] at A6)
   have hji9w : (IntKind.i64.wrap (x3_1 - 1)) = ji9 := (i64_w _).trans hji9
   by_cases c10 : 0 ≤ (ji9)
   case neg =>
    rw [if_neg c10] at H
    exact absurd H (by simp)
   rw [if_pos c10] at H
   have c10b0 : decide (0 ≤ (ji9)) = true := decide_eq_true c10
   clear c10
   by_cases c11 : (ji9) < (l0.length : Int)
   case neg =>
    rw [if_neg c11] at H
    exact absurd H (by simp)
   rw [if_pos c11] at H
   have c11b0 : decide ((ji9) < (l0.length : Int)) = true := decide_eq_true c11
   clear c11
   have H' := zm H
   clear H
   try go_wp2
   have n0_ := zm (below_drew1 HB.out)
   clear HB
   have HB := n0_
   clear n0_
   have p346 : 0 ≤ (x3_1 : Int) := of_decide_eq_true zq8
   have q346 : x3_1 < (l0.length : Int) := of_decide_eq_true zq8
   obtain ⟨ad346, e346, hx346_0, hx346_1, hx346_2, hx346_3, hx346_4, hx346_5⟩ := at_T25 HR0.out x3_1 p346 q346
   have hw346_5 := hx346_5
   have hw346_4 := hx346_4
   have hw346_3 := hx346_3
   have hw346_2 := hx346_2
   have hw346_1 := hx346_1
   have hw346_0 := hx346_0
   cases e346
   replace hx346_0 := bx HB.out hx346_0
   replace hx346_1 := bx HB.out hx346_1
   replace hx346_2 := bx HB.out hx346_2
   replace hx346_3 := bx HB.out hx346_3
   replace hx346_4 := bx HB.out hx346_4
   replace hx346_5 := bx HB.out hx346_5
   replace p346 := eq_true p346
   replace q346 := eq_true q346
   have p348 : 0 ≤ ((ji9) : Int) := of_decide_eq_true zq8
   have q348 : (ji9) < (l0.length : Int) := of_decide_eq_true zq8
   obtain ⟨ad348, e348, hx348_0, hx348_1, hx348_2, hx348_3, hx348_4, hx348_5⟩ := at_T25 HR0.out (ji9) p348 q348
   have hw348_5 := hx348_5
   have hw348_4 := hx348_4
   have hw348_3 := hx348_3
   have hw348_2 := hx348_2
   have hw348_1 := hx348_1
   have hw348_0 := hx348_0
   obtain rfl : ad346 = ad348 := (by injection e348)
   replace hx348_0 := bx HB.out hx348_0
   replace hx348_1 := bx HB.out hx348_1
   replace hx348_2 := bx HB.out hx348_2
   replace hx348_3 := bx HB.out hx348_3
   replace hx348_4 := bx HB.out hx348_4
   replace hx348_5 := bx HB.out hx348_5
   replace p348 := eq_true p348
   replace q348 := eq_true q348
   have p349 : 0 ≤ (x3_1 : Int) := of_decide_eq_true zq8
   have q349 : x3_1 < (l0.length : Int) := of_decide_eq_true zq8
   obtain ⟨ad349, e349, hx349_0, hx349_1, hx349_2, hx349_3, hx349_4, hx349_5⟩ := at_T25 HR0.out x3_1 p349 q349
   have hw349_5 := hx349_5
   have hw349_4 := hx349_4
   have hw349_3 := hx349_3
   have hw349_2 := hx349_2
   have hw349_1 := hx349_1
   have hw349_0 := hx349_0
   obtain rfl : ad346 = ad349 := (by injection e349)
   replace hx349_0 := bx HB.out hx349_0
   replace hx349_1 := bx HB.out hx349_1
   replace hx349_2 := bx HB.out hx349_2
   replace hx349_3 := bx HB.out hx349_3
   replace hx349_4 := bx HB.out hx349_4
   replace hx349_5 := bx HB.out hx349_5
   replace p349 := eq_true p349
   replace q349 := eq_true q349
   refine start_ (n := 24) (S := fun w' => w'.cell? (ad346.add ((x3_1).toNat * 6)) = some (.int .i64 ((rd_T25 l0 x3_1).f0)) ∧ w'.cell? ⟨(ad346.add ((x3_1).toNat * 6)).block, (ad346.add ((x3_1).toNat * 6)).off + 1, none⟩ = some (.int .i64 ((rd_T25 l0 x3_1).f1)) ∧ w'.cell? ⟨(ad346.add ((x3_1).toNat * 6)).block, (ad346.add ((x3_1).toNat * 6)).off + 2, none⟩ = some (.int .i64 ((rd_T25 l0 x3_1).f2)) ∧ w'.cell? ⟨(ad346.add ((x3_1).toNat * 6)).block, (ad346.add ((x3_1).toNat * 6)).off + 3, none⟩ = some (.int .i64 ((rd_T25 l0 x3_1).f3)) ∧ w'.cell? ⟨(ad346.add ((x3_1).toNat * 6)).block, (ad346.add ((x3_1).toNat * 6)).off + 4, none⟩ = some (.int .i64 ((rd_T25 l0 x3_1).f4)) ∧ w'.cell? ⟨(ad346.add ((x3_1).toNat * 6)).block, (ad346.add ((x3_1).toNat * 6)).off + 5, none⟩ = some (.int .i64 ((rd_T25 l0 x3_1).f5)) ∧ w'.cell? (ad346.add (((ji9)).toNat * 6)) = some (.int .i64 ((rd_T25 l0 (ji9)).f0)) ∧ w'.cell? ⟨(ad346.add (((ji9)).toNat * 6)).block, (ad346.add (((ji9)).toNat * 6)).off + 1, none⟩ = some (.int .i64 ((rd_T25 l0 (ji9)).f1)) ∧ w'.cell? ⟨(ad346.add (((ji9)).toNat * 6)).block, (ad346.add (((ji9)).toNat * 6)).off + 2, none⟩ = some (.int .i64 ((rd_T25 l0 (ji9)).f2)) ∧ w'.cell? ⟨(ad346.add (((ji9)).toNat * 6)).block, (ad346.add (((ji9)).toNat * 6)).off + 3, none⟩ = some (.int .i64 ((rd_T25 l0 (ji9)).f3)) ∧ w'.cell? ⟨(ad346.add (((ji9)).toNat * 6)).block, (ad346.add (((ji9)).toNat * 6)).off + 4, none⟩ = some (.int .i64 ((rd_T25 l0 (ji9)).f4)) ∧ w'.cell? ⟨(ad346.add (((ji9)).toNat * 6)).block, (ad346.add (((ji9)).toNat * 6)).off + 5, none⟩ = some (.int .i64 ((rd_T25 l0 (ji9)).f5)) ∧ w'.cell? (ad346.add ((x3_1).toNat * 6)) = some (.int .i64 ((rd_T25 l0 x3_1).f0)) ∧ w'.cell? ⟨(ad346.add ((x3_1).toNat * 6)).block, (ad346.add ((x3_1).toNat * 6)).off + 1, none⟩ = some (.int .i64 ((rd_T25 l0 x3_1).f1)) ∧ w'.cell? ⟨(ad346.add ((x3_1).toNat * 6)).block, (ad346.add ((x3_1).toNat * 6)).off + 2, none⟩ = some (.int .i64 ((rd_T25 l0 x3_1).f2)) ∧ w'.cell? ⟨(ad346.add ((x3_1).toNat * 6)).block, (ad346.add ((x3_1).toNat * 6)).off + 3, none⟩ = some (.int .i64 ((rd_T25 l0 x3_1).f3)) ∧ w'.cell? ⟨(ad346.add ((x3_1).toNat * 6)).block, (ad346.add ((x3_1).toNat * 6)).off + 4, none⟩ = some (.int .i64 ((rd_T25 l0 x3_1).f4)) ∧ w'.cell? ⟨(ad346.add ((x3_1).toNat * 6)).block, (ad346.add ((x3_1).toNat * 6)).off + 5, none⟩ = some (.int .i64 ((rd_T25 l0 x3_1).f5))) (ds := []) #[zf, zf, zf, zf, zf, zf, zf, zf, zf, zf, zf, zf, zf, zf, zf, zf, zf, zf, zf, zf, zf, zf, zf, zf] (by kernel_rfl) rfl rfl ⟨(zx HB.out hw346_0), (zx HB.out hw346_1), (zx HB.out hw346_2), (zx HB.out hw346_3), (zx HB.out hw346_4), (zx HB.out hw346_5), (zx HB.out hw348_0), (zx HB.out hw348_1), (zx HB.out hw348_2), (zx HB.out hw348_3), (zx HB.out hw348_4), (zx HB.out hw348_5), (zx HB.out hw349_0), (zx HB.out hw349_1), (zx HB.out hw349_2), (zx HB.out hw349_3), (zx HB.out hw349_4), (zx HB.out hw349_5)⟩ (fun hHeld => ?_); refine with_tabW spec_l14List.tab6 spec_l14List.bits6 (fun HT_ HW_ => ?_)
   generalize wr.drew = w12 at HB hx346_0 hx346_1 hx346_2 hx346_3 hx346_4 hx346_5 hx348_0 hx348_1 hx348_2 hx348_3 hx348_4 hx348_5 hx349_0 hx349_1 hx349_2 hx349_3 hx349_4 hx349_5 hHeld ⊢
   refine zP 0 (some 14) #[zt, zf, zf, zf, zf, zf, zf, zf, zf, zf, zf, zf, zf, zf, zf, zf, zf, zf, zf, zf, zf, zf, zf, zf] ?_ rfl rfl HT_ (Or.inl ⟨by rfl, ?_⟩) ?_ ?_ ?_
   rotate_left; · exact zqB
   rotate_left; · exact zqA
   refine zP 1 (some 15) #[zt, zt, zf, zf, zf, zf, zf, zf, zf, zf, zf, zf, zf, zf, zf, zf, zf, zf, zf, zf, zf, zf, zf, zf] ?_ rfl rfl HT_ (Or.inl ⟨by rfl, ?_⟩) ?_ ?_ ?_
   rotate_left; · exact zqB
   rotate_left; · exact zqA
   refine zP 2 (some 16) #[zt, zt, zt, zf, zf, zf, zf, zf, zf, zf, zf, zf, zf, zf, zf, zf, zf, zf, zf, zf, zf, zf, zf, zf] ?_ rfl rfl HT_ (Or.inl ⟨by rfl, ?_⟩) ?_ ?_ ?_
   rotate_left; · exact zqB
   rotate_left; · exact zqA
   refine zT 3 (some 17) #[zt, zt, zt, zt, zf, zf, zf, zf, zf, zf, zf, zf, zf, zf, zf, zf, zf, zf, zf, zf, zf, zf, zf, zf] ?_ rfl rfl HT_ HW_ (Or.inl ⟨by rfl, ?_⟩) hHeld ?_ ?_ ?_
   rotate_left
   ·
    rintro w' ⟨s0, s1, s2, s3, s4, s5, s6, s7, s8, s9, s10, s11, s12, s13, s14, s15, s16, s17⟩
    go_simp
    with_reducible rfl
   rotate_left; · exact zqA
   refine one_ (i := 4) (N := some 18) #[zt, zt, zt, zt, zt, zf, zf, zf, zf, zf, zf, zf, zf, zf, zf, zf, zf, zf, zf, zf, zf, zf, zf, zf] rfl rfl (one_of HT_.out (by kernel_rfl)) (by decide) (fun K hK => ?_)
   refine goes_ Tryz.func25 (by kernel_rfl) rfl #[.agg #[.int .i64 ((rd_T25 l0 x3_1).f0), .int .i64 ((rd_T25 l0 x3_1).f1), .int .i64 ((rd_T25 l0 x3_1).f2), .int .i64 ((rd_T25 l0 x3_1).f3), .int .i64 ((rd_T25 l0 x3_1).f4), .int .i64 ((rd_T25 l0 x3_1).f5)]] (by rfl) rfl rfl zq1 ?_
   with_reducible refine (spec_l14Good.calls ((rd_T25 l0 x3_1).f0) ((rd_T25 l0 x3_1).f1) ((rd_T25 l0 x3_1).f2) ((rd_T25 l0 x3_1).f3) ((rd_T25 l0 x3_1).f4) ((rd_T25 l0 x3_1).f5) true _ A6.out).mono ?_
   rintro e w13 ⟨rfl, hb⟩
   refine ⟨_, rfl, ?_⟩
   have n0_ := zm (below_step zq0 hb)
   clear HB
   have HB := n0_
   clear n0_
   (try clear hb)
   (try clear hb2)
   (try clear hk)
   (try clear hi)
   refine hK.out _ _ ⟨(zx HB.out hw346_0), (zx HB.out hw346_1), (zx HB.out hw346_2), (zx HB.out hw346_3), (zx HB.out hw346_4), (zx HB.out hw346_5), (zx HB.out hw348_0), (zx HB.out hw348_1), (zx HB.out hw348_2), (zx HB.out hw348_3), (zx HB.out hw348_4), (zx HB.out hw348_5), (zx HB.out hw349_0), (zx HB.out hw349_1), (zx HB.out hw349_2), (zx HB.out hw349_3), (zx HB.out hw349_4), (zx HB.out hw349_5)⟩ (fun hHeld => ?_)
   clear hK K
   refine norm_ (a' := ?_) ?_ ?_
   rotate_left
   ·
    show Act.put _ (some 18) _ = _
    simp only [Act.put, List.setIfInBounds_toArray, List.set_cons_zero, List.set_cons_succ, i64_w, i32_w]
    rfl
   refine zP 5 (some 19) #[zt, zt, zt, zt, zt, zt, zf, zf, zf, zf, zf, zf, zf, zf, zf, zf, zf, zf, zf, zf, zf, zf, zf, zf] ?_ rfl rfl HT_ (Or.inl ⟨by rfl, ?_⟩) ?_ ?_ ?_
   rotate_left; · exact zqB
   rotate_left; · exact zqA
   refine zP 6 (some 20) #[zt, zt, zt, zt, zt, zt, zt, zf, zf, zf, zf, zf, zf, zf, zf, zf, zf, zf, zf, zf, zf, zf, zf, zf] ?_ rfl rfl HT_ (Or.inl ⟨by rfl, ?_⟩) ?_ ?_ ?_
   rotate_left; · exact zqB
   rotate_left; · exact zqA
   refine zP 7 (some 21) #[zt, zt, zt, zt, zt, zt, zt, zt, zf, zf, zf, zf, zf, zf, zf, zf, zf, zf, zf, zf, zf, zf, zf, zf] ?_ rfl rfl HT_ (Or.inl ⟨by rfl, ?_⟩) ?_ ?_ ?_
   rotate_left; · exact zqB
   rotate_left; · exact zqA
   refine zP 8 (some 22) #[zt, zt, zt, zt, zt, zt, zt, zt, zt, zf, zf, zf, zf, zf, zf, zf, zf, zf, zf, zf, zf, zf, zf, zf] ?_ rfl rfl HT_ (Or.inl ⟨by rfl, ?_⟩) ?_ ?_ ?_
   rotate_left; · exact zqB
   rotate_left; · exact zqA
   refine zP 9 (some 23) #[zt, zt, zt, zt, zt, zt, zt, zt, zt, zt, zf, zf, zf, zf, zf, zf, zf, zf, zf, zf, zf, zf, zf, zf] ?_ rfl rfl HT_ (Or.inl ⟨by rfl, ?_⟩) ?_ ?_ ?_
   rotate_left; · exact zqB
   rotate_left; · exact zqA
   refine zP 10 (some 24) #[zt, zt, zt, zt, zt, zt, zt, zt, zt, zt, zt, zf, zf, zf, zf, zf, zf, zf, zf, zf, zf, zf, zf, zf] ?_ rfl rfl HT_ (Or.inl ⟨by rfl, ?_⟩) ?_ ?_ ?_
   rotate_left; · exact zqB
   rotate_left; · exact zqA
   refine zP 11 (some 25) #[zt, zt, zt, zt, zt, zt, zt, zt, zt, zt, zt, zt, zf, zf, zf, zf, zf, zf, zf, zf, zf, zf, zf, zf] ?_ rfl rfl HT_ (Or.inl ⟨by rfl, ?_⟩) ?_ ?_ ?_
   rotate_left; · exact zqB
   rotate_left; · exact zqA
   refine zP 12 (some 26) #[zt, zt, zt, zt, zt, zt, zt, zt, zt, zt, zt, zt, zt, zf, zf, zf, zf, zf, zf, zf, zf, zf, zf, zf] ?_ rfl rfl HT_ (Or.inl ⟨by rfl, ?_⟩) ?_ ?_ ?_
   rotate_left; · exact zqB
   rotate_left; · exact zqA
   refine zP 13 (some 27) #[zt, zt, zt, zt, zt, zt, zt, zt, zt, zt, zt, zt, zt, zt, zf, zf, zf, zf, zf, zf, zf, zf, zf, zf] ?_ rfl rfl HT_ (Or.inl ⟨by rfl, ?_⟩) ?_ ?_ ?_
   rotate_left; · exact zqB
   rotate_left; · exact zqA
   refine zP 14 (some 28) #[zt, zt, zt, zt, zt, zt, zt, zt, zt, zt, zt, zt, zt, zt, zt, zf, zf, zf, zf, zf, zf, zf, zf, zf] ?_ rfl rfl HT_ (Or.inl ⟨by rfl, ?_⟩) ?_ ?_ ?_
   rotate_left; · exact zqB
   rotate_left; · exact zqA
   refine zP 16 (some 30) #[zt, zt, zt, zt, zt, zt, zt, zt, zt, zt, zt, zt, zt, zt, zt, zf, zt, zf, zf, zf, zf, zf, zf, zf] ?_ rfl rfl HT_ (Or.inl ⟨by rfl, ?_⟩) ?_ ?_ ?_
   rotate_left; · exact zqB
   rotate_left; · exact zqA
   refine zP 17 (some 31) #[zt, zt, zt, zt, zt, zt, zt, zt, zt, zt, zt, zt, zt, zt, zt, zf, zt, zt, zf, zf, zf, zf, zf, zf] ?_ rfl rfl HT_ (Or.inl ⟨by rfl, ?_⟩) ?_ ?_ ?_
   rotate_left; · exact zqB
   rotate_left; · exact zqA
   refine zP 18 (some 32) #[zt, zt, zt, zt, zt, zt, zt, zt, zt, zt, zt, zt, zt, zt, zt, zf, zt, zt, zt, zf, zf, zf, zf, zf] ?_ rfl rfl HT_ (Or.inl ⟨by rfl, ?_⟩) ?_ ?_ ?_
   rotate_left; · exact zqB
   rotate_left; · exact zqA
   refine zP 19 (some 33) #[zt, zt, zt, zt, zt, zt, zt, zt, zt, zt, zt, zt, zt, zt, zt, zf, zt, zt, zt, zt, zf, zf, zf, zf] ?_ rfl rfl HT_ (Or.inl ⟨by rfl, ?_⟩) ?_ ?_ ?_
   rotate_left; · exact zqB
   rotate_left; · exact zqA
   refine zT 15 (some 29) #[zt, zt, zt, zt, zt, zt, zt, zt, zt, zt, zt, zt, zt, zt, zt, zt, zt, zt, zt, zt, zf, zf, zf, zf] ?_ rfl rfl HT_ HW_ (Or.inl ⟨by rfl, ?_⟩) hHeld ?_ ?_ ?_
   rotate_left
   ·
    rintro w' ⟨s0, s1, s2, s3, s4, s5, s6, s7, s8, s9, s10, s11, s12, s13, s14, s15, s16, s17⟩
    go_simp
    with_reducible rfl
   rotate_left; · exact zqA
   refine zT 20 (some 34) #[zt, zt, zt, zt, zt, zt, zt, zt, zt, zt, zt, zt, zt, zt, zt, zt, zt, zt, zt, zt, zt, zf, zf, zf] ?_ rfl rfl HT_ HW_ (Or.inl ⟨by rfl, ?_⟩) hHeld ?_ ?_ ?_
   rotate_left
   ·
    rintro w' ⟨s0, s1, s2, s3, s4, s5, s6, s7, s8, s9, s10, s11, s12, s13, s14, s15, s16, s17⟩
    go_simp
    with_reducible rfl
   rotate_left; · exact zqA
   refine zP 21 (some 35) #[zt, zt, zt, zt, zt, zt, zt, zt, zt, zt, zt, zt, zt, zt, zt, zt, zt, zt, zt, zt, zt, zt, zf, zf] ?_ rfl rfl HT_ (Or.inl ⟨by rfl, ?_⟩) ?_ ?_ ?_
   rotate_left; · exact zqB
   rotate_left; · exact zqA
   refine zP 22 (some 36) #[zt, zt, zt, zt, zt, zt, zt, zt, zt, zt, zt, zt, zt, zt, zt, zt, zt, zt, zt, zt, zt, zt, zt, zf] ?_ rfl rfl HT_ (Or.inl ⟨by rfl, ?_⟩) ?_ ?_ ?_
   rotate_left; · exact zqB
   rotate_left; · exact zqA
   refine zP 23 (some 37) #[zt, zt, zt, zt, zt, zt, zt, zt, zt, zt, zt, zt, zt, zt, zt, zt, zt, zt, zt, zt, zt, zt, zt, zt] ?_ rfl rfl HT_ (Or.inl ⟨by rfl, ?_⟩) ?_ ?_ ?_
   rotate_left; · exact zqB
   rotate_left; · exact zqA
   refine done_ (done_of HT_.out (by kernel_rfl)) ?_
   try go_wp2
   go_meet
   case rel => exact ⟨_, (decide (((rd_T25 l0 (ji9)).f0) ≥ ((rd_T25 l0 x3_1).f0))), (by first | rfl | (simp; done) | (simp only [← hji9] <;> (first | rfl | simp)) | (simp [*]; done)), H', ⟨by have := HK1.out; first | omega | exact Nat.le_refl _⟩, ⟨zq0⟩⟩
  clear HC4
  try clear c1
  try clear c2
  try clear p2
  try clear p3
  try clear q3
  try clear hx3
  try clear c5
  try clear c7
  try clear c8
  try clear c8b0
  try clear c10
  try clear c11
  try clear hx346_0
  try clear hx346_1
  try clear hx346_2
  try clear hx346_3
  try clear hx346_4
  try clear hx346_5
  try clear hx348_0
  try clear hx348_1
  try clear hx348_2
  try clear hx348_3
  try clear hx348_4
  try clear hx348_5
  try clear hx349_0
  try clear hx349_1
  try clear hx349_2
  try clear hx349_3
  try clear hx349_4
  try clear hx349_5
  try clear p346
  try clear p349
  try clear q346
  try clear q349
  obtain ⟨kq, x37_3, rfl, HA, HJ3, HB⟩ := hcut
  cases kq with
  | zero => exact absurd HA.out (by simp [spec_l14List.j1])
  | succ kj3 =>
   have H := HA.out
   clear HA
   simp only [spec_l14List.j1] at H
   by_cases c18 : x37_3 = true
   case pos =>
    subst c18
    have H1 : (some false) = some r := by rw [if_pos rfl] at H; exact H
    clear H
    have H := H1
    clear H1
    obtain rfl := Option.some.inj H
    go_wp2
    go_ret
    exact ⟨zqE, zq0⟩
   replace c18 := Bool.eq_false_iff.mpr c18
   subst c18
   have H1 : (spec_l14List.l1 kj3 l0 x3_1 0) = some r := by rw [if_neg (show ¬ (false = true) by decide)] at H; exact H
   clear H
   have H := H1
   clear H1
   have H' := zm H
   clear H
   go_wp2
   go_loopg [4] kj3 (fun kq v4 w' => ∃ (x4_3 : Int), v4 = .int .i64 x4_3 ∧ Aside0 (spec_l14List.l1 kq l0 x3_1 x4_3 = some r) ∧ Aside0 (kq ≤ kj3) ∧ Aside0 (Below w.heap.size w w'))
   case atStart => exact ⟨(0), (by first | rfl | (simp; done) | (simp [*]; done)), H', ⟨Nat.le_refl _⟩, ⟨zq0⟩⟩
   clear H'
   try clear c1
   try clear c2
   try clear p2
   try clear p3
   try clear q3
   try clear hx3
   try clear c5
   try clear c7
   try clear c8
   try clear c8b0
   try clear c10
   try clear c11
   try clear c18
   try clear hx346_0
   try clear hx346_1
   try clear hx346_2
   try clear hx346_3
   try clear hx346_4
   try clear hx346_5
   try clear hx348_0
   try clear hx348_1
   try clear hx348_2
   try clear hx348_3
   try clear hx348_4
   try clear hx348_5
   try clear hx349_0
   try clear hx349_1
   try clear hx349_2
   try clear hx349_3
   try clear hx349_4
   try clear hx349_5
   try clear p2
   try clear p3
   try clear p346
   try clear p349
   try clear q3
   try clear q346
   try clear q349
   obtain ⟨x4_3, rfl, HA, HK3, HB⟩ := hrel
   cases gk with
   | zero => exact absurd HA.out (by simp [spec_l14List.l1])
   | succ k3 =>
    have H := HA.out
    clear HA
    simp only [spec_l14List.l1] at H
    by_cases c19 : x4_3 < x3_1
    case neg =>
     rw [if_neg c19] at H
     have c19b0 : decide (x4_3 < x3_1) = false := decide_eq_false c19
     clear c19
     have H' := zm H
     clear H
     go_wp2
     go_roundg k3
     case measure => have := HK1.out; have := HJ3.out; have := HK3.out; omega
     case rel => exact ⟨(wrap64 (x3_1 + 1)), (by first | rfl | (simp; done) | (simp [*]; done)), H', ⟨by have := HK1.out; have := HJ3.out; have := HK3.out; omega⟩, ⟨zq0⟩⟩
    rw [if_pos c19] at H
    have c19b0 : decide (x4_3 < x3_1) = true := decide_eq_true c19
    clear c19
    by_cases c20 : 0 ≤ x4_3
    case neg =>
     rw [if_neg c20] at H
     exact absurd H (by simp)
    rw [if_pos c20] at H
    have c20b0 : decide (0 ≤ x4_3) = true := decide_eq_true c20
    clear c20
    by_cases c21 : x4_3 < (l0.length : Int)
    case neg =>
     rw [if_neg c21] at H
     exact absurd H (by simp)
    rw [if_pos c21] at H
    have c21b0 : decide (x4_3 < (l0.length : Int)) = true := decide_eq_true c21
    clear c21
    by_cases c22 : 0 ≤ x3_1
    case neg =>
     rw [if_neg c22] at H
     exact absurd H (by simp)
    rw [if_pos c22] at H
    have c22b0 : decide (0 ≤ x3_1) = true := decide_eq_true c22
    clear c22
    by_cases c23 : x3_1 < (l0.length : Int)
    case neg =>
     rw [if_neg c23] at H
     exact absurd H (by simp)
    rw [if_pos c23] at H
    have c23b0 : decide (x3_1 < (l0.length : Int)) = true := decide_eq_true c23
    clear c23
    obtain ⟨t352, A240, H⟩ := zob H
    replace H : (if t352 = true then (some false) else (spec_l14List.l1 k3 l0 x3_1 (wrap64 (x4_3 + 1)))) = some r := H
    have A24 := zm A240
    clear A240
    by_cases c25 : t352 = true
    case pos =>
     subst c25
     have H1 : (some false) = some r := by rw [if_pos rfl] at H; exact H
     clear H
     have H := H1
     clear H1
     obtain rfl := Option.some.inj H
     try go_wp2
     have n0_ := zm (below_drew1 HB.out)
     clear HB
     have HB := n0_
     clear n0_
     have p350 : 0 ≤ (x4_3 : Int) := of_decide_eq_true zq8
     have q350 : x4_3 < (l0.length : Int) := of_decide_eq_true zq8
     obtain ⟨ad350, e350, hx350_0, hx350_1, hx350_2, hx350_3, hx350_4, hx350_5⟩ := at_T25 HR0.out x4_3 p350 q350
     have hw350_5 := hx350_5
     have hw350_4 := hx350_4
     have hw350_3 := hx350_3
     have hw350_2 := hx350_2
     have hw350_1 := hx350_1
     have hw350_0 := hx350_0
     cases e350
     replace hx350_0 := bx HB.out hx350_0
     replace hx350_1 := bx HB.out hx350_1
     replace hx350_2 := bx HB.out hx350_2
     replace hx350_3 := bx HB.out hx350_3
     replace hx350_4 := bx HB.out hx350_4
     replace hx350_5 := bx HB.out hx350_5
     replace p350 := eq_true p350
     replace q350 := eq_true q350
     have p351 : 0 ≤ (x3_1 : Int) := of_decide_eq_true zq8
     have q351 : x3_1 < (l0.length : Int) := of_decide_eq_true zq8
     obtain ⟨ad351, e351, hx351_0, hx351_1, hx351_2, hx351_3, hx351_4, hx351_5⟩ := at_T25 HR0.out x3_1 p351 q351
     have hw351_5 := hx351_5
     have hw351_4 := hx351_4
     have hw351_3 := hx351_3
     have hw351_2 := hx351_2
     have hw351_1 := hx351_1
     have hw351_0 := hx351_0
     obtain rfl : ad350 = ad351 := (by injection e351)
     replace hx351_0 := bx HB.out hx351_0
     replace hx351_1 := bx HB.out hx351_1
     replace hx351_2 := bx HB.out hx351_2
     replace hx351_3 := bx HB.out hx351_3
     replace hx351_4 := bx HB.out hx351_4
     replace hx351_5 := bx HB.out hx351_5
     replace p351 := eq_true p351
     replace q351 := eq_true q351
     refine start_ (n := 9) (S := fun w' => w'.cell? (ad350.add ((x4_3).toNat * 6)) = some (.int .i64 ((rd_T25 l0 x4_3).f0)) ∧ w'.cell? ⟨(ad350.add ((x4_3).toNat * 6)).block, (ad350.add ((x4_3).toNat * 6)).off + 1, none⟩ = some (.int .i64 ((rd_T25 l0 x4_3).f1)) ∧ w'.cell? ⟨(ad350.add ((x4_3).toNat * 6)).block, (ad350.add ((x4_3).toNat * 6)).off + 2, none⟩ = some (.int .i64 ((rd_T25 l0 x4_3).f2)) ∧ w'.cell? ⟨(ad350.add ((x4_3).toNat * 6)).block, (ad350.add ((x4_3).toNat * 6)).off + 3, none⟩ = some (.int .i64 ((rd_T25 l0 x4_3).f3)) ∧ w'.cell? ⟨(ad350.add ((x4_3).toNat * 6)).block, (ad350.add ((x4_3).toNat * 6)).off + 4, none⟩ = some (.int .i64 ((rd_T25 l0 x4_3).f4)) ∧ w'.cell? ⟨(ad350.add ((x4_3).toNat * 6)).block, (ad350.add ((x4_3).toNat * 6)).off + 5, none⟩ = some (.int .i64 ((rd_T25 l0 x4_3).f5)) ∧ w'.cell? (ad350.add ((x3_1).toNat * 6)) = some (.int .i64 ((rd_T25 l0 x3_1).f0)) ∧ w'.cell? ⟨(ad350.add ((x3_1).toNat * 6)).block, (ad350.add ((x3_1).toNat * 6)).off + 1, none⟩ = some (.int .i64 ((rd_T25 l0 x3_1).f1)) ∧ w'.cell? ⟨(ad350.add ((x3_1).toNat * 6)).block, (ad350.add ((x3_1).toNat * 6)).off + 2, none⟩ = some (.int .i64 ((rd_T25 l0 x3_1).f2)) ∧ w'.cell? ⟨(ad350.add ((x3_1).toNat * 6)).block, (ad350.add ((x3_1).toNat * 6)).off + 3, none⟩ = some (.int .i64 ((rd_T25 l0 x3_1).f3)) ∧ w'.cell? ⟨(ad350.add ((x3_1).toNat * 6)).block, (ad350.add ((x3_1).toNat * 6)).off + 4, none⟩ = some (.int .i64 ((rd_T25 l0 x3_1).f4)) ∧ w'.cell? ⟨(ad350.add ((x3_1).toNat * 6)).block, (ad350.add ((x3_1).toNat * 6)).off + 5, none⟩ = some (.int .i64 ((rd_T25 l0 x3_1).f5))) (ds := []) #[zf, zf, zf, zf, zf, zf, zf, zf, zf] (by kernel_rfl) rfl rfl ⟨(zx HB.out hw350_0), (zx HB.out hw350_1), (zx HB.out hw350_2), (zx HB.out hw350_3), (zx HB.out hw350_4), (zx HB.out hw350_5), (zx HB.out hw351_0), (zx HB.out hw351_1), (zx HB.out hw351_2), (zx HB.out hw351_3), (zx HB.out hw351_4), (zx HB.out hw351_5)⟩ (fun hHeld => ?_); refine with_tabW spec_l14List.tab11 spec_l14List.bits11 (fun HT_ HW_ => ?_)
     generalize wr.drew = w26 at HB hx350_0 hx350_1 hx350_2 hx350_3 hx350_4 hx350_5 hx351_0 hx351_1 hx351_2 hx351_3 hx351_4 hx351_5 hHeld ⊢
     refine zP 0 (some 43) #[zt, zf, zf, zf, zf, zf, zf, zf, zf] ?_ rfl rfl HT_ (Or.inl ⟨by rfl, ?_⟩) ?_ ?_ ?_
     rotate_left; · exact zqB
     rotate_left; · exact zqA
     refine zP 1 (some 44) #[zt, zt, zf, zf, zf, zf, zf, zf, zf] ?_ rfl rfl HT_ (Or.inl ⟨by rfl, ?_⟩) ?_ ?_ ?_
     rotate_left; · exact zqB
     rotate_left; · exact zqA
     refine zP 2 (some 45) #[zt, zt, zt, zf, zf, zf, zf, zf, zf] ?_ rfl rfl HT_ (Or.inl ⟨by rfl, ?_⟩) ?_ ?_ ?_
     rotate_left; · exact zqB
     rotate_left; · exact zqA
     refine zP 4 (some 47) #[zt, zt, zt, zf, zt, zf, zf, zf, zf] ?_ rfl rfl HT_ (Or.inl ⟨by rfl, ?_⟩) ?_ ?_ ?_
     rotate_left; · exact zqB
     rotate_left; · exact zqA
     refine zP 5 (some 48) #[zt, zt, zt, zf, zt, zt, zf, zf, zf] ?_ rfl rfl HT_ (Or.inl ⟨by rfl, ?_⟩) ?_ ?_ ?_
     rotate_left; · exact zqB
     rotate_left; · exact zqA
     refine zP 6 (some 49) #[zt, zt, zt, zf, zt, zt, zt, zf, zf] ?_ rfl rfl HT_ (Or.inl ⟨by rfl, ?_⟩) ?_ ?_ ?_
     rotate_left; · exact zqB
     rotate_left; · exact zqA
     refine zT 3 (some 46) #[zt, zt, zt, zt, zt, zt, zt, zf, zf] ?_ rfl rfl HT_ HW_ (Or.inl ⟨by rfl, ?_⟩) hHeld ?_ ?_ ?_
     rotate_left
     ·
      rintro w' ⟨s0, s1, s2, s3, s4, s5, s6, s7, s8, s9, s10, s11⟩
      go_simp
      with_reducible rfl
     rotate_left; · exact zqA
     refine zT 7 (some 50) #[zt, zt, zt, zt, zt, zt, zt, zt, zf] ?_ rfl rfl HT_ HW_ (Or.inl ⟨by rfl, ?_⟩) hHeld ?_ ?_ ?_
     rotate_left
     ·
      rintro w' ⟨s0, s1, s2, s3, s4, s5, s6, s7, s8, s9, s10, s11⟩
      go_simp
      with_reducible rfl
     rotate_left; · exact zqA
     refine one_ (i := 8) (N := some 51) #[zt, zt, zt, zt, zt, zt, zt, zt, zt] rfl rfl (one_of HT_.out (by kernel_rfl)) (by decide) (fun K hK => ?_)
     refine goes_ Tryz.func68 (by kernel_rfl) rfl #[.agg #[.int .i64 ((rd_T25 l0 x4_3).f0), .int .i64 ((rd_T25 l0 x4_3).f1), .int .i64 ((rd_T25 l0 x4_3).f2), .int .i64 ((rd_T25 l0 x4_3).f3), .int .i64 ((rd_T25 l0 x4_3).f4), .int .i64 ((rd_T25 l0 x4_3).f5)], .agg #[.int .i64 ((rd_T25 l0 x3_1).f0), .int .i64 ((rd_T25 l0 x3_1).f1), .int .i64 ((rd_T25 l0 x3_1).f2), .int .i64 ((rd_T25 l0 x3_1).f3), .int .i64 ((rd_T25 l0 x3_1).f4), .int .i64 ((rd_T25 l0 x3_1).f5)]] (by rfl) rfl rfl zq1 ?_
     with_reducible refine (spec_l14Meet.calls ((rd_T25 l0 x4_3).f0) ((rd_T25 l0 x4_3).f1) ((rd_T25 l0 x4_3).f2) ((rd_T25 l0 x4_3).f3) ((rd_T25 l0 x4_3).f4) ((rd_T25 l0 x4_3).f5) ((rd_T25 l0 x3_1).f0) ((rd_T25 l0 x3_1).f1) ((rd_T25 l0 x3_1).f2) ((rd_T25 l0 x3_1).f3) ((rd_T25 l0 x3_1).f4) ((rd_T25 l0 x3_1).f5) true _ A24.out).mono ?_
     rintro e w27 ⟨rfl, hb⟩
     refine ⟨_, rfl, ?_⟩
     have n0_ := zm (below_step zq0 hb)
     clear HB
     have HB := n0_
     clear n0_
     (try clear hb)
     (try clear hb2)
     (try clear hk)
     (try clear hi)
     refine hK.out _ _ ⟨(zx HB.out hw350_0), (zx HB.out hw350_1), (zx HB.out hw350_2), (zx HB.out hw350_3), (zx HB.out hw350_4), (zx HB.out hw350_5), (zx HB.out hw351_0), (zx HB.out hw351_1), (zx HB.out hw351_2), (zx HB.out hw351_3), (zx HB.out hw351_4), (zx HB.out hw351_5)⟩ (fun hHeld => ?_)
     clear hK K
     refine norm_ (a' := ?_) ?_ ?_
     rotate_left
     ·
      show Act.put _ (some 51) _ = _
      simp only [Act.put, List.setIfInBounds_toArray, List.set_cons_zero, List.set_cons_succ, i64_w, i32_w]
      rfl
     refine done_ (done_of HT_.out (by kernel_rfl)) ?_
     try go_wp2
     go_ret
     exact ⟨zqE, zq0⟩
    replace c25 := Bool.eq_false_iff.mpr c25
    subst c25
    have H1 : (spec_l14List.l1 k3 l0 x3_1 (wrap64 (x4_3 + 1))) = some r := by rw [if_neg (show ¬ (false = true) by decide)] at H; exact H
    clear H
    have H := H1
    clear H1
    have H' := zm H
    clear H
    try go_wp2
    have n0_ := zm (below_drew1 HB.out)
    clear HB
    have HB := n0_
    clear n0_
    have p350 : 0 ≤ (x4_3 : Int) := of_decide_eq_true zq8
    have q350 : x4_3 < (l0.length : Int) := of_decide_eq_true zq8
    obtain ⟨ad350, e350, hx350_0, hx350_1, hx350_2, hx350_3, hx350_4, hx350_5⟩ := at_T25 HR0.out x4_3 p350 q350
    have hw350_5 := hx350_5
    have hw350_4 := hx350_4
    have hw350_3 := hx350_3
    have hw350_2 := hx350_2
    have hw350_1 := hx350_1
    have hw350_0 := hx350_0
    cases e350
    replace hx350_0 := bx HB.out hx350_0
    replace hx350_1 := bx HB.out hx350_1
    replace hx350_2 := bx HB.out hx350_2
    replace hx350_3 := bx HB.out hx350_3
    replace hx350_4 := bx HB.out hx350_4
    replace hx350_5 := bx HB.out hx350_5
    replace p350 := eq_true p350
    replace q350 := eq_true q350
    have p351 : 0 ≤ (x3_1 : Int) := of_decide_eq_true zq8
    have q351 : x3_1 < (l0.length : Int) := of_decide_eq_true zq8
    obtain ⟨ad351, e351, hx351_0, hx351_1, hx351_2, hx351_3, hx351_4, hx351_5⟩ := at_T25 HR0.out x3_1 p351 q351
    have hw351_5 := hx351_5
    have hw351_4 := hx351_4
    have hw351_3 := hx351_3
    have hw351_2 := hx351_2
    have hw351_1 := hx351_1
    have hw351_0 := hx351_0
    obtain rfl : ad350 = ad351 := (by injection e351)
    replace hx351_0 := bx HB.out hx351_0
    replace hx351_1 := bx HB.out hx351_1
    replace hx351_2 := bx HB.out hx351_2
    replace hx351_3 := bx HB.out hx351_3
    replace hx351_4 := bx HB.out hx351_4
    replace hx351_5 := bx HB.out hx351_5
    replace p351 := eq_true p351
    replace q351 := eq_true q351
    refine start_ (n := 9) (S := fun w' => w'.cell? (ad350.add ((x4_3).toNat * 6)) = some (.int .i64 ((rd_T25 l0 x4_3).f0)) ∧ w'.cell? ⟨(ad350.add ((x4_3).toNat * 6)).block, (ad350.add ((x4_3).toNat * 6)).off + 1, none⟩ = some (.int .i64 ((rd_T25 l0 x4_3).f1)) ∧ w'.cell? ⟨(ad350.add ((x4_3).toNat * 6)).block, (ad350.add ((x4_3).toNat * 6)).off + 2, none⟩ = some (.int .i64 ((rd_T25 l0 x4_3).f2)) ∧ w'.cell? ⟨(ad350.add ((x4_3).toNat * 6)).block, (ad350.add ((x4_3).toNat * 6)).off + 3, none⟩ = some (.int .i64 ((rd_T25 l0 x4_3).f3)) ∧ w'.cell? ⟨(ad350.add ((x4_3).toNat * 6)).block, (ad350.add ((x4_3).toNat * 6)).off + 4, none⟩ = some (.int .i64 ((rd_T25 l0 x4_3).f4)) ∧ w'.cell? ⟨(ad350.add ((x4_3).toNat * 6)).block, (ad350.add ((x4_3).toNat * 6)).off + 5, none⟩ = some (.int .i64 ((rd_T25 l0 x4_3).f5)) ∧ w'.cell? (ad350.add ((x3_1).toNat * 6)) = some (.int .i64 ((rd_T25 l0 x3_1).f0)) ∧ w'.cell? ⟨(ad350.add ((x3_1).toNat * 6)).block, (ad350.add ((x3_1).toNat * 6)).off + 1, none⟩ = some (.int .i64 ((rd_T25 l0 x3_1).f1)) ∧ w'.cell? ⟨(ad350.add ((x3_1).toNat * 6)).block, (ad350.add ((x3_1).toNat * 6)).off + 2, none⟩ = some (.int .i64 ((rd_T25 l0 x3_1).f2)) ∧ w'.cell? ⟨(ad350.add ((x3_1).toNat * 6)).block, (ad350.add ((x3_1).toNat * 6)).off + 3, none⟩ = some (.int .i64 ((rd_T25 l0 x3_1).f3)) ∧ w'.cell? ⟨(ad350.add ((x3_1).toNat * 6)).block, (ad350.add ((x3_1).toNat * 6)).off + 4, none⟩ = some (.int .i64 ((rd_T25 l0 x3_1).f4)) ∧ w'.cell? ⟨(ad350.add ((x3_1).toNat * 6)).block, (ad350.add ((x3_1).toNat * 6)).off + 5, none⟩ = some (.int .i64 ((rd_T25 l0 x3_1).f5))) (ds := []) #[zf, zf, zf, zf, zf, zf, zf, zf, zf] (by kernel_rfl) rfl rfl ⟨(zx HB.out hw350_0), (zx HB.out hw350_1), (zx HB.out hw350_2), (zx HB.out hw350_3), (zx HB.out hw350_4), (zx HB.out hw350_5), (zx HB.out hw351_0), (zx HB.out hw351_1), (zx HB.out hw351_2), (zx HB.out hw351_3), (zx HB.out hw351_4), (zx HB.out hw351_5)⟩ (fun hHeld => ?_); refine with_tabW spec_l14List.tab11 spec_l14List.bits11 (fun HT_ HW_ => ?_)
    generalize wr.drew = w28 at HB hx350_0 hx350_1 hx350_2 hx350_3 hx350_4 hx350_5 hx351_0 hx351_1 hx351_2 hx351_3 hx351_4 hx351_5 hHeld ⊢
    refine zP 0 (some 43) #[zt, zf, zf, zf, zf, zf, zf, zf, zf] ?_ rfl rfl HT_ (Or.inl ⟨by rfl, ?_⟩) ?_ ?_ ?_
    rotate_left; · exact zqB
    rotate_left; · exact zqA
    refine zP 1 (some 44) #[zt, zt, zf, zf, zf, zf, zf, zf, zf] ?_ rfl rfl HT_ (Or.inl ⟨by rfl, ?_⟩) ?_ ?_ ?_
    rotate_left; · exact zqB
    rotate_left; · exact zqA
    refine zP 2 (some 45) #[zt, zt, zt, zf, zf, zf, zf, zf, zf] ?_ rfl rfl HT_ (Or.inl ⟨by rfl, ?_⟩) ?_ ?_ ?_
    rotate_left; · exact zqB
    rotate_left; · exact zqA
    refine zP 4 (some 47) #[zt, zt, zt, zf, zt, zf, zf, zf, zf] ?_ rfl rfl HT_ (Or.inl ⟨by rfl, ?_⟩) ?_ ?_ ?_
    rotate_left; · exact zqB
    rotate_left; · exact zqA
    refine zP 5 (some 48) #[zt, zt, zt, zf, zt, zt, zf, zf, zf] ?_ rfl rfl HT_ (Or.inl ⟨by rfl, ?_⟩) ?_ ?_ ?_
    rotate_left; · exact zqB
    rotate_left; · exact zqA
    refine zP 6 (some 49) #[zt, zt, zt, zf, zt, zt, zt, zf, zf] ?_ rfl rfl HT_ (Or.inl ⟨by rfl, ?_⟩) ?_ ?_ ?_
    rotate_left; · exact zqB
    rotate_left; · exact zqA
    refine zT 3 (some 46) #[zt, zt, zt, zt, zt, zt, zt, zf, zf] ?_ rfl rfl HT_ HW_ (Or.inl ⟨by rfl, ?_⟩) hHeld ?_ ?_ ?_
    rotate_left
    ·
     rintro w' ⟨s0, s1, s2, s3, s4, s5, s6, s7, s8, s9, s10, s11⟩
     go_simp
     with_reducible rfl
    rotate_left; · exact zqA
    refine zT 7 (some 50) #[zt, zt, zt, zt, zt, zt, zt, zt, zf] ?_ rfl rfl HT_ HW_ (Or.inl ⟨by rfl, ?_⟩) hHeld ?_ ?_ ?_
    rotate_left
    ·
     rintro w' ⟨s0, s1, s2, s3, s4, s5, s6, s7, s8, s9, s10, s11⟩
     go_simp
     with_reducible rfl
    rotate_left; · exact zqA
    refine one_ (i := 8) (N := some 51) #[zt, zt, zt, zt, zt, zt, zt, zt, zt] rfl rfl (one_of HT_.out (by kernel_rfl)) (by decide) (fun K hK => ?_)
    refine goes_ Tryz.func68 (by kernel_rfl) rfl #[.agg #[.int .i64 ((rd_T25 l0 x4_3).f0), .int .i64 ((rd_T25 l0 x4_3).f1), .int .i64 ((rd_T25 l0 x4_3).f2), .int .i64 ((rd_T25 l0 x4_3).f3), .int .i64 ((rd_T25 l0 x4_3).f4), .int .i64 ((rd_T25 l0 x4_3).f5)], .agg #[.int .i64 ((rd_T25 l0 x3_1).f0), .int .i64 ((rd_T25 l0 x3_1).f1), .int .i64 ((rd_T25 l0 x3_1).f2), .int .i64 ((rd_T25 l0 x3_1).f3), .int .i64 ((rd_T25 l0 x3_1).f4), .int .i64 ((rd_T25 l0 x3_1).f5)]] (by rfl) rfl rfl zq1 ?_
    with_reducible refine (spec_l14Meet.calls ((rd_T25 l0 x4_3).f0) ((rd_T25 l0 x4_3).f1) ((rd_T25 l0 x4_3).f2) ((rd_T25 l0 x4_3).f3) ((rd_T25 l0 x4_3).f4) ((rd_T25 l0 x4_3).f5) ((rd_T25 l0 x3_1).f0) ((rd_T25 l0 x3_1).f1) ((rd_T25 l0 x3_1).f2) ((rd_T25 l0 x3_1).f3) ((rd_T25 l0 x3_1).f4) ((rd_T25 l0 x3_1).f5) false _ A24.out).mono ?_
    rintro e w29 ⟨rfl, hb⟩
    refine ⟨_, rfl, ?_⟩
    have n0_ := zm (below_step zq0 hb)
    clear HB
    have HB := n0_
    clear n0_
    (try clear hb)
    (try clear hb2)
    (try clear hk)
    (try clear hi)
    refine hK.out _ _ ⟨(zx HB.out hw350_0), (zx HB.out hw350_1), (zx HB.out hw350_2), (zx HB.out hw350_3), (zx HB.out hw350_4), (zx HB.out hw350_5), (zx HB.out hw351_0), (zx HB.out hw351_1), (zx HB.out hw351_2), (zx HB.out hw351_3), (zx HB.out hw351_4), (zx HB.out hw351_5)⟩ (fun hHeld => ?_)
    clear hK K
    refine norm_ (a' := ?_) ?_ ?_
    rotate_left
    ·
     show Act.put _ (some 51) _ = _
     simp only [Act.put, List.setIfInBounds_toArray, List.set_cons_zero, List.set_cons_succ, i64_w, i32_w]
     rfl
    refine done_ (done_of HT_.out (by kernel_rfl)) ?_
    try go_wp2
    go_roundg k3
    case measure => have := HK1.out; have := HJ3.out; have := HK3.out; omega
    case rel => exact ⟨(wrap64 (x4_3 + 1)), (by first | rfl | (simp; done) | (simp [*]; done)), H', ⟨by have := HK1.out; have := HJ3.out; have := HK3.out; omega⟩, ⟨zq0⟩⟩
end Go.Proofs.YtleadjbfcenofaaGreatDoor.Q
